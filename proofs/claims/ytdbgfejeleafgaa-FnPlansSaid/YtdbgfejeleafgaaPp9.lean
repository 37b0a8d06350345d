/- What the texts behind it build on; conditions: none. -/
import Derived.Test.YtdbgfejeleafgaaPp8
namespace Go.Proofs.Ytdbgfejeleafgaa
open Go.RowKit
set_option linter.unusedVariables false
set_option linter.unusedSimpArgs false
noncomputable def arQ (ps : List Pp) (vs : List Vv) (a : Int) (i : Int) : Bool := match vs[i.toNat]? with
  | some v => !(rb (linked ps (openQ vs false)) a v.node == rb (linked ps (openQ vs false)) a (9 + findL ps v.pipe))
  | none => false
noncomputable def aroundI (ps : List Pp) (vs : List Vv) (a : Int) (k : Nat) : List Int := (upTo k).filter (arQ ps vs a)
theorem aroundI_len (ps : List Pp) (vs : List Vv) (a : Int) (k : Nat) : (aroundI ps vs a k).length ≤ k := by
  unfold aroundI; have := List.length_filter_le (arQ ps vs a) (upTo k); rw [upTo_len] at this; exact this
theorem aroundI_in {ps : List Pp} {vs : List Vv} {a : Int} {k : Nat} {y : Int} (h : y ∈ aroundI ps vs a k) : 0 ≤ y ∧ y < k := by
  unfold aroundI at h; exact mem_upTo.1 (List.mem_filter.1 h).1
theorem aroundI_yes {ps : List Pp} {vs : List Vv} {a : Int} {i : Nat} {x : Vv} (hx : vs[i]? = some x) (h : rb (linked ps (openQ vs false)) a x.node ≠ rb (linked ps (openQ vs false)) a (9 + findL ps x.pipe)) : aroundI ps vs a (i + 1) = aroundI ps vs a i ++ [(i : Int)] := by
  unfold aroundI; rw [upTo_succ, List.filter_append, List.filter_cons_of_pos (by unfold arQ; rw [Int.toNat_natCast, hx]; simpa using h)]; rfl
theorem aroundI_no {ps : List Pp} {vs : List Vv} {a : Int} {i : Nat} {x : Vv} (hx : vs[i]? = some x) (h : rb (linked ps (openQ vs false)) a x.node = rb (linked ps (openQ vs false)) a (9 + findL ps x.pipe)) : aroundI ps vs a (i + 1) = aroundI ps vs a i := by
  unfold aroundI; rw [upTo_succ, List.filter_append, List.filter_cons_of_neg (by unfold arQ; rw [Int.toNat_natCast, hx]; simp [h]), List.filter_nil, List.append_nil]
def idsV (vs : List Vv) (xs : List Int) : List Int := xs.map (fun i => match vs[i.toNat]? with | some v => v.id | none => 0)
theorem idsV_len (vs : List Vv) (xs : List Int) : (idsV vs xs).length = xs.length := by simp [idsV]
theorem idsV_take {vs : List Vv} {xs : List Int} {i : Nat} {y : Int} {v : Vv} (hy : xs[i]? = some y) (hp : vs[y.toNat]? = some v) : idsV vs (xs.take (i + 1)) = idsV vs (xs.take i) ++ [v.id] := by
  rw [List.take_add_one, hy]; simp [idsV, hp]
def ValvesAround_v1 (m : Int) (ps : List Pp) (vs : List Vv) (a : Int) : Bool := goodV m ps vs && decide (0 ≤ findL ps a)
noncomputable def ValvesAround_v0 (m : Int) (ps : List Pp) (vs : List Vv) (a : Int) : List Int := if ValvesAround_v1 m ps vs a = true then idsV vs (aroundI ps vs (9 + findL ps a) vs.length) else []
set_option maxRecDepth 100000 in
set_option maxHeartbeats 8000000 in
theorem valvesAround_any (m : Int) (A : Option Addr) (n c : Nat) (ps : List Pp) (A2 : Option Addr) (n2 c2 : Nat) (vs : List Vv) (a : Int) (w : World) (ha : Rd w 4 A n (pipesV ps)) (hb : Rd w 4 A2 n2 (valvesV vs)) (hn : n ≤ 1048576) (hn2 : n2 ≤ 1048576) (hv9 : GoodVal m ps vs) (hfa : 0 ≤ findL ps a) :
    Calls Try.prog 85 #[.agg #[.int .i64 m, .slice A n c], .slice A2 n2 c2, .int .i64 a] w fun e w' => ∃ A' n' c', e = .returned (.slice A' n' c') ∧ w'.ownsRow w.heap.size 3 1 (.slice A' n' c') n' (intsV (aroundI ps vs (9 + findL ps a) vs.length)) ∧ Below w.heap.size w w' := by
 have hl := rd_pipes_len ha
 have hl2 := rd_valves_len hb
 have hg := hv9.net
 have hgl := hg.lo
 have hgh := hg.hi
 have hp := hg.pipesIn
 have hlen10 := hg.len
 have hu := hv9.uniq
 have hvl := hv9.len
 have hfl := findL_lt ps a
 go_enter Try.func85, Try.ntmps85
 refine F.begin 48 [(0, .agg #[.int .i64 m, .slice A n c]), (1, .slice A2 n2 c2), (2, .int .i64 a)] (fun U0 => ?_)
 refine wk fun K1 h1 => ?_
 refine W.region_plain (row := none) [(0, true), (1, false)] kk ?_
 have s1 := SG.self w none
 refine W.sn (fun b => .pointer (some ⟨b, 0, none⟩)) #[.int .i64 m, .slice A n c] 26 s1 rfl kk rfl (fun _ => by kernel_rfl) (fun b2 w3 hb4 k5 x6 s7 => ?_)
 apply F.nx
 have lo8 : w.heap.size ≤ b2 := Nl ((Sb (Below.refl _ _) s1 nkk)).size (Nat.le_of_eq hb4)
 refine Fa (.slice none 0 0) ?_
 apply F.es
 have c9 := (Sb (Below.refl _ _) s7 nkk)
 apply h1
 refine wk fun K2 h2 => ?_
 refine W.region_sch (row := none) (Sch.app [(0, false), (1, false), (2, false), (3, false)] (.br 4 7 (Sch.app [] (.br 5 7 (Sch.app [] (.br 6 7 (Sch.of [(8, false), (7, true), (9, false)]) (Sch.of [(6, true), (8, false), (9, false)]))) (Sch.of [(5, true), (6, true), (8, false), (9, false)]))) (Sch.of [(4, true), (5, true), (6, true), (8, false), (9, false)]))) kk kk (fun _ d _ _ _ h => by cases d <;> exact h) kk (fun w10 e11 s12 => ?_)
 refine Fq (.agg #[.int .i64 m, .slice A n c]) (r_load2 rfl ek kk kk (sgS (blk_cell (j := 0) x6 kk) onn) (sgS (blk_cell (j := 1) x6 kk) onn)) ?_
 refine Fv (.slice A2 n2 c2) ?_
 refine Fq (.agg #[.int .i64 m, .slice A n c]) (r_load2 rfl ek kk kk (sgS (blk_cell (j := 0) x6 kk) onn) (sgS (blk_cell (j := 1) x6 kk) onn)) ?_
 refine Fv (.int .i64 a) ?_
 refine W.sbr ?_ ?_
 ·refine Fc [.agg #[.int .i64 m, .slice A n c], .int .i64 a] (pipeIndex_any m A n c ps a _ (Rk ha (Sb c9 s12 nkk)) (by omega)) ?_
  rintro e w14 ⟨rfl, b13⟩
  have s15 := SG.of_below s12 b13
  refine ⟨_, rfl, s15, ?_⟩
  apply F.nx
  refine W.sbr ?_ ?_
  ·refine Fc [.int .i64 (findL ps a)] (element_any (findL ps a) _ (by omega)) ?_
   rintro e w' ⟨rfl, rfl⟩
   refine ⟨_, rfl, s15, ?_⟩
   apply F.nx
   refine W.sbr ?_ ?_
   ·refine Fc [.agg #[.int .i64 m, .slice A n c], .slice A2 n2 c2, .int .i64 (9 + (findL ps a))] (segmentOf_any m A n c ps A2 n2 c2 vs (9 + (findL ps a)) (9 + (findL ps a)).toNat _ (Rk ha (Sb c9 s15 nkk)) (Rk hb (Sb c9 s15 nkk)) (by omega) (by omega) hp (by omega) (by omega) (by omega) (by omega)) ?_
    rintro e w24 ⟨pb18, rfl, lo22, rd19, b23⟩
    have s25 := SG.of_below s15 b23
    refine ⟨_, rfl, s25, ?_⟩
    apply F.nx
    have hl20 := rd_bools_len rd19
    rw [wetL_len] at hl20
    have hl20 : (wetL (linked ps (openQ vs false)) (9 + (findL ps a))).length = 19 := wetL_len _ _
    refine Fa (.pointer (some ⟨pb18, 0, none⟩)) ?_
    refine W.sn (fun b => .slice (some ⟨b, 0, none⟩) 0 0) #[] 3 s25 rfl kk rfl (fun _ => by kernel_rfl) (fun b27 w28 hb29 k30 x31 s32 => ?_)
    apply F.nx
    have lo33 : w.heap.size ≤ b27 := Nl ((Sb c9 s25 nkk)).size (Nat.le_of_eq hb29)
    have sp34 : Sp (some ⟨pb18, 0, none⟩) 19 (some b27) := sp_new rd19 (by have := hb29; omega)
    have ne35 : b2 ≠ b27 := Nat.ne_of_lt (Nat.lt_of_lt_of_eq (Nat.lt_of_lt_of_le (blk_lt x6) (s25).size) hb29)
    have rd36 := Rk rd19 k30
    refine Fa (.slice (some ⟨b27, 0, none⟩) 0 0) ?_
    apply F.es
    have x6 := Sk s32 x6 onn
    have c37 := (Sb c9 s32 nkk)
    apply h2
    refine wk fun K3 h3 => ?_
    refine wk fun K4 h4 => ?_
    refine Rq 3 ?_
    refine Fv (.slice A2 n2 c2) ?_
    refine Fq (.int .i64 (n2 : Int)) (r_len (A := A2) (n := n2) (c := c2) rfl ek kk) ?_
    refine Fv (.int .i64 0) ?_
    apply F.es
    apply h4
    refine wp_block ?_
    have ho38 := own_empty (base := w.heap.size) (size := 1) x31 lo33
    replace ho38 : World.ownsRow _ _ _ _ _ _ (intsV []) := ho38
    have sp39 := sp_own (n' := 0) (c := 0) sp34
    have nb40 : Nb b2 (.slice (some ⟨b27, 0, none⟩) 0 0) := nb_new ne35
    refine loopK (fun am0 aa0 wl0 => ∃ (i : Nat) (A0_8 : Option Addr) (n0_8 : Nat) (c0_8 : Nat) , Kn aa0 [(0, .agg #[.int .i64 m, .slice A n c]), (1, .slice A2 n2 c2), (2, .int .i64 a), (3, .pointer (some ⟨b2, 0, none⟩)), (6, .slice none 0 0), (7, .pointer (some ⟨pb18, 0, none⟩)), (8, .slice A0_8 n0_8 c0_8), (19, .slice A2 n2 c2), (20, .int .i64 (n2 : Int)), (21, .int .i64 (i : Int))] 48 ∧ (am0 = n2 - i) ∧ (i ≤ n2) ∧ (n0_8 ≤ i) ∧ (wl0.heap[b2]? = some (.cells #[.int .i64 m, .slice A n c] 26 (0, 0))) ∧ (wl0.ownsRow w.heap.size 3 1 (.slice A0_8 n0_8 c0_8) n0_8 (intsV (aroundI ps vs (9 + findL ps a) i))) ∧ (Nb b2 (.slice A0_8 n0_8 c0_8)) ∧ (Rd wl0 1 (some ⟨pb18, 0, none⟩) 19 (boolsV (wetL (linked ps (openQ vs false)) (9 + (findL ps a))))) ∧ (Sp (some ⟨pb18, 0, none⟩) 19 (Value.ownBlock (.slice A0_8 n0_8 c0_8))) ∧ (Below w.heap.size w wl0)) (n2 - 0) ?_ ?_
    ·exact ⟨0, (some ⟨b27, 0, none⟩), 0, 0, Kn.of, rfl, (Nat.zero_le _), (Nat.zero_le _), x6, ho38, nb40, rd36, sp39, c37⟩
    rintro am0 aa0 wl0 K5 h5 ⟨i, A0_8, n0_8, c0_8, ⟨U0, rfl⟩, rfl, hi, hb8, x6, ho0_8, nb0_8_b2, rd0_7, sp0_7_8, c41⟩
    refine wk fun K6 h6 => ?_
    refine Rq 1 ?_
    by_cases q42 : ((i : Int) : Int) < ((n2 : Int) : Int)
    ·refine Fq (.bool true) (r_lss (m := (i : Int)) (n := (n2 : Int)) rfl ek ek (dt q42)) ?_
     apply F.es
     apply h6
     refine wk fun K7 h7 => ?_
     refine wp_cond_true ek ?_
     apply wp_skip
     apply h7
     refine wk fun K8 h8 => ?_
     refine wp_block ?_
     refine wk fun K9 h9 => ?_
     refine W.region_plain (row := none) [(0, false), (1, false), (2, false), (3, true), (4, false), (5, true)] kk ?_
     have s43 := SG.self wl0 none
     refine Fv (.int .i64 (i : Int)) ?_
     obtain ⟨x44, hx45⟩ := get_of (zs := vs) (k := i) (by have := hl2; omega)
     obtain ⟨b46, o47, hA48, hb49, hc50, hc51, hc52, hc53⟩ := Rd.elValve hb hx45
     refine Fq (.pointer (some ⟨b46, o47 + i * 4, none⟩)) (r_idx (n := n2) (c := c2) (k := i) rfl ek hA48 kk kk (by have := hl2; omega)) ?_
     refine Fq (.agg #[.int .i64 x44.id, .int .i64 x44.pipe, .int .i64 x44.node, .bool x44.shut]) (r_load4 rfl ek kk kk (sgS (later c41 hc50) (by simp)) (sgS (later c41 hc51) (by simp)) (sgS (later c41 hc52) (by simp)) (sgS (later c41 hc53) (by simp))) ?_
     refine W.sn (fun b => .pointer (some ⟨b, 0, none⟩)) #[.int .i64 0, .int .i64 0, .int .i64 0, .bool false] 40 s43 rfl kk rfl (fun _ => by kernel_rfl) (fun b54 w55 hb56 k57 x58 s59 => ?_)
     apply F.nx
     have lo60 : w.heap.size ≤ b54 := Nl ((Sb c41 s43 nkk)).size (Nat.le_of_eq hb56)
     have nb63 : Nb b54 (.slice A0_8 n0_8 c0_8) := nb_hi ho0_8 (Nat.le_of_eq hb56)
     have ho64 := own_kept ho0_8 k57
     refine Fa (.int .i64 (i : Int)) ?_
     refine W.ss (v := .agg #[.int .i64 x44.id, .int .i64 x44.pipe, .int .i64 x44.node, .bool x44.shut]) (j := 0) (news := [.int .i64 x44.id, .int .i64 x44.pipe, .int .i64 x44.node, .bool x44.shut]) (cs' := #[.int .i64 x44.id, .int .i64 x44.pipe, .int .i64 x44.node, .bool x44.shut]) s59 rfl kk rfl rfl kk kk x58 kk kk (by simp) kk kk (.inr (Nl (s43).size (Nat.le_of_eq hb56))) (fun w65 g66 x67 s68 => ?_)
     have ho69 := own_grown ho64 g66 (fun j e1 e2 => by cases e2; exact nb63 e1.symm)
     apply F.es
     have x6 := Sk s68 x6 onn
     have c70 := (Sb c41 s68 nkk)
     have rd71 := Rk rd0_7 (SG.below s68)
     apply h9
     refine wk fun K10 h10 => ?_
     refine W.region_sch (row := none) (Sch.of [(0, false), (1, false), (2, false), (3, false), (4, false), (5, false), (6, false), (7, false), (8, false), (9, false), (12, false), (10, true), (11, true), (13, false), (14, false), (15, false)]) kk kk (fun _ d _ _ _ h => by cases d <;> exact h) kk (fun w72 e73 s74 => ?_)
     have ho75 := own_heap ho69 e73
     refine Fv (.pointer (some ⟨pb18, 0, none⟩)) ?_
     refine Fq (.pointer (some ⟨b54, 2, none⟩)) (r_field (k := 2) rfl ek kk) ?_
     refine Fl (.int .i64 x44.node) (sgS (blk_cell (j := 2) x67 kk) onn) ?_
     refine Fq (.pointer (some ⟨pb18, 0, none⟩)) (r_nilCheck rfl ek) ?_
     obtain ⟨kz, pz, ekz, hkz, hpz, hnz⟩ := hv9.place x44 (List.mem_of_getElem? hx45)
     have hgz := hg.at hpz
     obtain ⟨x76, hx77⟩ := get_of (zs := (wetL (linked ps (openQ vs false)) (9 + (findL ps a)))) (k := x44.node.toNat) (by have := hl20; omega)
     obtain ⟨hb78, hc79⟩ := Rd.elBool rd71 hx77
     refine Fq (.pointer (some ⟨pb18, x44.node.toNat, none⟩)) (r_idxA (len := 19) (k := x44.node.toNat) rfl ek (evk (z := x44.node) kk (by omega)) kk (by omega)) ?_
     refine Fl (.bool x76) (sgS hc79 (by simp)) ?_
     refine Fv (.pointer (some ⟨pb18, 0, none⟩)) ?_
     refine Fq (.agg #[.int .i64 m, .slice A n c]) (r_load2 rfl ek kk kk (sgS (blk_cell (j := 0) x6 kk) onn) (sgS (blk_cell (j := 1) x6 kk) onn)) ?_
     refine Fq (.pointer (some ⟨b54, 1, none⟩)) (r_field (k := 1) rfl ek kk) ?_
     refine Fl (.int .i64 x44.pipe) (sgS (blk_cell (j := 1) x67 kk) onn) ?_
     refine Fq (.pointer (some ⟨pb18, 0, none⟩)) (r_nilCheck rfl ek) ?_
     refine Fc [.agg #[.int .i64 m, .slice A n c], .int .i64 x44.pipe] (pipeIndex_any m A n c ps x44.pipe _ (Rk ha (Sb c70 s74 nkk)) (by omega)) ?_
     rintro e w81 ⟨rfl, b80⟩
     have s82 := SG.of_below s74 b80
     refine ⟨_, rfl, s82, ?_⟩
     apply F.nx
     have ho83 := own_kept ho75 b80
     refine Fc [.int .i64 (findL ps x44.pipe)] (element_any (findL ps x44.pipe) _ (by omega)) ?_
     rintro e w' ⟨rfl, rfl⟩
     refine ⟨_, rfl, s82, ?_⟩
     apply F.nx
     obtain ⟨x86, hx87⟩ := get_of (zs := (wetL (linked ps (openQ vs false)) (9 + (findL ps a)))) (k := (9 + kz)) (by have := hl20; omega)
     obtain ⟨hb88, hc89⟩ := Rd.elBool rd71 hx87
     refine Fq (.pointer (some ⟨pb18, (9 + kz), none⟩)) (r_idxA (len := 19) (k := (9 + kz)) rfl ek (evk (z := 9 + (findL ps x44.pipe)) kk (by omega)) kk (by omega)) ?_
     refine Fl (.bool x86) (sgS hc89 (by simp)) ?_
     by_cases q90 : x76 = x86
     ·refine Fq (.bool false) (r_neqB (m := x76) (n := x86) rfl ek ek kk (by rw [(beq_iff_eq.2 q90)]; try rfl)) ?_
      apply F.es
      have x6 := Sk s82 x6 onn
      have c91 := (Sb c70 s82 nkk)
      have rd92 := Rk rd71 (SG.below s82)
      apply h10
      refine wp_cond_false ek ?_
      apply wp_skip
      apply h8
      refine Rq 2 ?_
      refine Fq (.int .i64 ((i + 1 : Nat) : Int)) (r_add (m := (i : Int)) (n := 1) (z := ((i + 1 : Nat) : Int)) rfl ek ek (by omega) (by omega)) ?_
      refine Fv (.int .i64 ((i + 1 : Nat) : Int)) ?_
      apply F.es
      exact h5 _ _ _ (by omega : (n2 - (i + 1)) < _) ⟨i + 1, A0_8, n0_8, c0_8, Kn.of, rfl, (by omega), (by omega), x6, (by rw [aroundI_no hx45 (by have h9 := wet_eqI (b := x44.node) hx77 (by omega); have h8 := wet_eqI (b := 9 + findL ps x44.pipe) hx87 (by omega); rw [← h9, ← h8]; exact q90)]; exact ho83), nb0_8_b2, rd92, sp0_7_8, c91⟩
     refine Fq (.bool true) (r_neqB (m := x76) (n := x86) rfl ek ek kk (by rw [(beq_eq_false_iff_ne.2 q90)]; try rfl)) ?_
     apply F.es
     have x6 := Sk s82 x6 onn
     have c93 := (Sb c70 s82 nkk)
     have rd94 := Rk rd71 (SG.below s82)
     apply h10
     refine wp_cond_true ek ?_
     refine W.region_plain (row := (Value.ownBlock (.slice A0_8 n0_8 c0_8))) [(0, false), (1, false), (2, true), (3, true), (4, false)] kk ?_
     have s95 := SG.self w81 (Value.ownBlock (.slice A0_8 n0_8 c0_8))
     refine Fv (.slice A0_8 n0_8 c0_8) ?_
     refine Fv (.int .i64 (i : Int)) ?_
     refine W.sn (fun b => .slice (some ⟨b, 0, none⟩) 1 1) #[.int .i64 (i : Int)] 3 s95 rfl kk rfl (fun _ => by kernel_rfl) (fun b96 w97 hb98 k99 x100 s101 => ?_)
     apply F.nx
     have lo102 : w.heap.size ≤ b96 := Nl ((Sb c93 s95 (fun kq e => (World.ownsRow.lt ho83 kq e).1))).size (Nat.le_of_eq hb98)
     have ho107 := own_kept ho83 k99
     refine W.sap (e := 3) (size := 1) (base := w.heap.size) (m := 1) (v := .slice A0_8 n0_8 c0_8) (c := 1) s101 rfl rfl rfl rfl kk kk kk ho107 x100 kk kk (by omega) (by omega) (by have := ((Sb c93 s101 (fun kq e => (World.ownsRow.lt ho83 kq e).1))).size; omega) (.inl rfl) (fun g108 cap109 w110 ho111 hg112 hat113 hlt114 s115 => ?_)
     apply F.nx
     have nb116 : Nb b2 (.slice (some ⟨g108, 0, none⟩) (n0_8 + 1) cap109) := nb_app nb0_8_b2 (Nat.lt_of_lt_of_le (blk_lt x6) (s101).size) hat113
     have ho111 := own_snoc ho111
     have sp119 := sp_app (v' := .slice (some ⟨g108, 0, none⟩) (n0_8 + 1) cap109) sp0_7_8 rd94 ((s101).size) (hat3 (v := .slice A0_8 n0_8 c0_8) hat113)
     refine Fa (.slice (some ⟨g108, 0, none⟩) (n0_8 + 1) cap109) ?_
     apply F.es
     have x6 := Sk s115 x6 nb0_8_b2
     have c120 := (Sb c93 s115 (fun kq e => (World.ownsRow.lt ho83 kq e).1))
     have rd121 := rd_sep rd94 s115 sp0_7_8
     apply h8
     refine Rq 2 ?_
     refine Fq (.int .i64 ((i + 1 : Nat) : Int)) (r_add (m := (i : Int)) (n := 1) (z := ((i + 1 : Nat) : Int)) rfl ek ek (by omega) (by omega)) ?_
     refine Fv (.int .i64 ((i + 1 : Nat) : Int)) ?_
     apply F.es
     exact h5 _ _ _ (by omega : (n2 - (i + 1)) < _) ⟨i + 1, (some ⟨g108, 0, none⟩), (n0_8 + 1), cap109, Kn.of, rfl, (by omega), (by omega), x6, (by rw [aroundI_yes hx45 (by have h9 := wet_eqI (b := x44.node) hx77 (by omega); have h8 := wet_eqI (b := 9 + findL ps x44.pipe) hx87 (by omega); rw [← h9, ← h8]; exact q90)]; exact ho111), nb116, rd121, sp119, c120⟩
    refine Fq (.bool false) (r_lss (m := (i : Int)) (n := (n2 : Int)) rfl ek ek (df q42)) ?_
    apply F.es
    apply h6
    refine wk fun K11 h11 => ?_
    refine wp_cond_false ek ?_
    refine wp_exit ?_
    apply h3
    refine wk fun K12 h12 => ?_
    refine Rq 2 ?_
    refine Fv (.slice A0_8 n0_8 c0_8) ?_
    refine Fa (.slice A0_8 n0_8 c0_8) ?_
    apply F.es
    apply h12
    refine wp_ret ?_
    try simp only [Exit.then]
    refine ret1 (v := .slice A0_8 n0_8 c0_8) rfl kk ?_
    exact ⟨_, _, _, rfl, (by rw [show vs.length = i by omega]; exact ho0_8), c41⟩
   refine W.sn (fun b => .slice (some ⟨b, 0, none⟩) 0 0) #[] 3 s15 rfl kk rfl (fun _ => by kernel_rfl) (fun b122 w123 hb124 k125 x126 s127 => ?_)
   apply F.nx
   have lo128 : w.heap.size ≤ b122 := Nl ((Sb c9 s15 nkk)).size (Nat.le_of_eq hb124)
   have ne129 : b2 ≠ b122 := Nat.ne_of_lt (Nat.lt_of_lt_of_eq (Nat.lt_of_lt_of_le (blk_lt x6) (s15).size) hb124)
   have lb135 := blk_lt x126
   refine Fc [.agg #[.int .i64 m, .slice A n c], .slice A2 n2 c2, .int .i64 (9 + (findL ps a))] (segmentOf_any m A n c ps A2 n2 c2 vs (9 + (findL ps a)) (9 + (findL ps a)).toNat _ (Rk ha (Sb c9 s127 nkk)) (Rk hb (Sb c9 s127 nkk)) (by omega) (by omega) hp (by omega) (by omega) (by omega) (by omega)) ?_
   rintro e w137 ⟨pb130, rfl, lo134, rd131, b136⟩
   have s138 := SG.of_below s127 b136
   refine ⟨_, rfl, s138, ?_⟩
   apply F.nx
   have x126 := (b136.block _ (blk_lt x126)).trans x126
   have sp140 : Sp (some ⟨pb130, 0, none⟩) 19 (some b122) := sp_ptrB (Nat.lt_of_lt_of_le lb135 lo134)
   have hl132 := rd_bools_len rd131
   rw [wetL_len] at hl132
   have hl132 : (wetL (linked ps (openQ vs false)) (9 + (findL ps a))).length = 19 := wetL_len _ _
   refine Fa (.pointer (some ⟨pb130, 0, none⟩)) ?_
   refine Fa (.slice (some ⟨b122, 0, none⟩) 0 0) ?_
   apply F.es
   have x6 := Sk s138 x6 onn
   have c141 := (Sb c9 s138 nkk)
   apply h2
   refine wk fun K13 h13 => ?_
   refine wk fun K14 h14 => ?_
   refine Rq 3 ?_
   refine Fv (.slice A2 n2 c2) ?_
   refine Fq (.int .i64 (n2 : Int)) (r_len (A := A2) (n := n2) (c := c2) rfl ek kk) ?_
   refine Fv (.int .i64 0) ?_
   apply F.es
   apply h14
   refine wp_block ?_
   have ho142 := own_empty (base := w.heap.size) (size := 1) x126 lo128
   replace ho142 : World.ownsRow _ _ _ _ _ _ (intsV []) := ho142
   have sp143 := sp_own (n' := 0) (c := 0) sp140
   have nb144 : Nb b2 (.slice (some ⟨b122, 0, none⟩) 0 0) := nb_new ne129
   refine loopK (fun am0 aa0 wl0 => ∃ (i : Nat) (A0_8 : Option Addr) (n0_8 : Nat) (c0_8 : Nat) , Kn aa0 [(0, .agg #[.int .i64 m, .slice A n c]), (1, .slice A2 n2 c2), (2, .int .i64 a), (3, .pointer (some ⟨b2, 0, none⟩)), (6, .slice none 0 0), (7, .pointer (some ⟨pb130, 0, none⟩)), (8, .slice A0_8 n0_8 c0_8), (19, .slice A2 n2 c2), (20, .int .i64 (n2 : Int)), (21, .int .i64 (i : Int))] 48 ∧ (am0 = n2 - i) ∧ (i ≤ n2) ∧ (n0_8 ≤ i) ∧ (wl0.heap[b2]? = some (.cells #[.int .i64 m, .slice A n c] 26 (0, 0))) ∧ (wl0.ownsRow w.heap.size 3 1 (.slice A0_8 n0_8 c0_8) n0_8 (intsV (aroundI ps vs (9 + findL ps a) i))) ∧ (Nb b2 (.slice A0_8 n0_8 c0_8)) ∧ (Rd wl0 1 (some ⟨pb130, 0, none⟩) 19 (boolsV (wetL (linked ps (openQ vs false)) (9 + (findL ps a))))) ∧ (Sp (some ⟨pb130, 0, none⟩) 19 (Value.ownBlock (.slice A0_8 n0_8 c0_8))) ∧ (Below w.heap.size w wl0)) (n2 - 0) ?_ ?_
   ·exact ⟨0, (some ⟨b122, 0, none⟩), 0, 0, Kn.of, rfl, (Nat.zero_le _), (Nat.zero_le _), x6, ho142, nb144, rd131, sp143, c141⟩
   rintro am0 aa0 wl0 K15 h15 ⟨i, A0_8, n0_8, c0_8, ⟨U0, rfl⟩, rfl, hi, hb8, x6, ho0_8, nb0_8_b2, rd0_7, sp0_7_8, c145⟩
   refine wk fun K16 h16 => ?_
   refine Rq 1 ?_
   by_cases q146 : ((i : Int) : Int) < ((n2 : Int) : Int)
   ·refine Fq (.bool true) (r_lss (m := (i : Int)) (n := (n2 : Int)) rfl ek ek (dt q146)) ?_
    apply F.es
    apply h16
    refine wk fun K17 h17 => ?_
    refine wp_cond_true ek ?_
    apply wp_skip
    apply h17
    refine wk fun K18 h18 => ?_
    refine wp_block ?_
    refine wk fun K19 h19 => ?_
    refine W.region_plain (row := none) [(0, false), (1, false), (2, false), (3, true), (4, false), (5, true)] kk ?_
    have s147 := SG.self wl0 none
    refine Fv (.int .i64 (i : Int)) ?_
    obtain ⟨x148, hx149⟩ := get_of (zs := vs) (k := i) (by have := hl2; omega)
    obtain ⟨b150, o151, hA152, hb153, hc154, hc155, hc156, hc157⟩ := Rd.elValve hb hx149
    refine Fq (.pointer (some ⟨b150, o151 + i * 4, none⟩)) (r_idx (n := n2) (c := c2) (k := i) rfl ek hA152 kk kk (by have := hl2; omega)) ?_
    refine Fq (.agg #[.int .i64 x148.id, .int .i64 x148.pipe, .int .i64 x148.node, .bool x148.shut]) (r_load4 rfl ek kk kk (sgS (later c145 hc154) (by simp)) (sgS (later c145 hc155) (by simp)) (sgS (later c145 hc156) (by simp)) (sgS (later c145 hc157) (by simp))) ?_
    refine W.sn (fun b => .pointer (some ⟨b, 0, none⟩)) #[.int .i64 0, .int .i64 0, .int .i64 0, .bool false] 40 s147 rfl kk rfl (fun _ => by kernel_rfl) (fun b158 w159 hb160 k161 x162 s163 => ?_)
    apply F.nx
    have lo164 : w.heap.size ≤ b158 := Nl ((Sb c145 s147 nkk)).size (Nat.le_of_eq hb160)
    have nb167 : Nb b158 (.slice A0_8 n0_8 c0_8) := nb_hi ho0_8 (Nat.le_of_eq hb160)
    have ho168 := own_kept ho0_8 k161
    refine Fa (.int .i64 (i : Int)) ?_
    refine W.ss (v := .agg #[.int .i64 x148.id, .int .i64 x148.pipe, .int .i64 x148.node, .bool x148.shut]) (j := 0) (news := [.int .i64 x148.id, .int .i64 x148.pipe, .int .i64 x148.node, .bool x148.shut]) (cs' := #[.int .i64 x148.id, .int .i64 x148.pipe, .int .i64 x148.node, .bool x148.shut]) s163 rfl kk rfl rfl kk kk x162 kk kk (by simp) kk kk (.inr (Nl (s147).size (Nat.le_of_eq hb160))) (fun w169 g170 x171 s172 => ?_)
    have ho173 := own_grown ho168 g170 (fun j e1 e2 => by cases e2; exact nb167 e1.symm)
    apply F.es
    have x6 := Sk s172 x6 onn
    have c174 := (Sb c145 s172 nkk)
    have rd175 := Rk rd0_7 (SG.below s172)
    apply h19
    refine wk fun K20 h20 => ?_
    refine W.region_sch (row := none) (Sch.of [(0, false), (1, false), (2, false), (3, false), (4, false), (5, false), (6, false), (7, false), (8, false), (9, false), (12, false), (10, true), (11, true), (13, false), (14, false), (15, false)]) kk kk (fun _ d _ _ _ h => by cases d <;> exact h) kk (fun w176 e177 s178 => ?_)
    have ho179 := own_heap ho173 e177
    refine Fv (.pointer (some ⟨pb130, 0, none⟩)) ?_
    refine Fq (.pointer (some ⟨b158, 2, none⟩)) (r_field (k := 2) rfl ek kk) ?_
    refine Fl (.int .i64 x148.node) (sgS (blk_cell (j := 2) x171 kk) onn) ?_
    refine Fq (.pointer (some ⟨pb130, 0, none⟩)) (r_nilCheck rfl ek) ?_
    obtain ⟨kz, pz, ekz, hkz, hpz, hnz⟩ := hv9.place x148 (List.mem_of_getElem? hx149)
    have hgz := hg.at hpz
    obtain ⟨x180, hx181⟩ := get_of (zs := (wetL (linked ps (openQ vs false)) (9 + (findL ps a)))) (k := x148.node.toNat) (by have := hl132; omega)
    obtain ⟨hb182, hc183⟩ := Rd.elBool rd175 hx181
    refine Fq (.pointer (some ⟨pb130, x148.node.toNat, none⟩)) (r_idxA (len := 19) (k := x148.node.toNat) rfl ek (evk (z := x148.node) kk (by omega)) kk (by omega)) ?_
    refine Fl (.bool x180) (sgS hc183 (by simp)) ?_
    refine Fv (.pointer (some ⟨pb130, 0, none⟩)) ?_
    refine Fq (.agg #[.int .i64 m, .slice A n c]) (r_load2 rfl ek kk kk (sgS (blk_cell (j := 0) x6 kk) onn) (sgS (blk_cell (j := 1) x6 kk) onn)) ?_
    refine Fq (.pointer (some ⟨b158, 1, none⟩)) (r_field (k := 1) rfl ek kk) ?_
    refine Fl (.int .i64 x148.pipe) (sgS (blk_cell (j := 1) x171 kk) onn) ?_
    refine Fq (.pointer (some ⟨pb130, 0, none⟩)) (r_nilCheck rfl ek) ?_
    refine Fc [.agg #[.int .i64 m, .slice A n c], .int .i64 x148.pipe] (pipeIndex_any m A n c ps x148.pipe _ (Rk ha (Sb c174 s178 nkk)) (by omega)) ?_
    rintro e w185 ⟨rfl, b184⟩
    have s186 := SG.of_below s178 b184
    refine ⟨_, rfl, s186, ?_⟩
    apply F.nx
    have ho187 := own_kept ho179 b184
    refine Fc [.int .i64 (findL ps x148.pipe)] (element_any (findL ps x148.pipe) _ (by omega)) ?_
    rintro e w' ⟨rfl, rfl⟩
    refine ⟨_, rfl, s186, ?_⟩
    apply F.nx
    obtain ⟨x190, hx191⟩ := get_of (zs := (wetL (linked ps (openQ vs false)) (9 + (findL ps a)))) (k := (9 + kz)) (by have := hl132; omega)
    obtain ⟨hb192, hc193⟩ := Rd.elBool rd175 hx191
    refine Fq (.pointer (some ⟨pb130, (9 + kz), none⟩)) (r_idxA (len := 19) (k := (9 + kz)) rfl ek (evk (z := 9 + (findL ps x148.pipe)) kk (by omega)) kk (by omega)) ?_
    refine Fl (.bool x190) (sgS hc193 (by simp)) ?_
    by_cases q194 : x180 = x190
    ·refine Fq (.bool false) (r_neqB (m := x180) (n := x190) rfl ek ek kk (by rw [(beq_iff_eq.2 q194)]; try rfl)) ?_
     apply F.es
     have x6 := Sk s186 x6 onn
     have c195 := (Sb c174 s186 nkk)
     have rd196 := Rk rd175 (SG.below s186)
     apply h20
     refine wp_cond_false ek ?_
     apply wp_skip
     apply h18
     refine Rq 2 ?_
     refine Fq (.int .i64 ((i + 1 : Nat) : Int)) (r_add (m := (i : Int)) (n := 1) (z := ((i + 1 : Nat) : Int)) rfl ek ek (by omega) (by omega)) ?_
     refine Fv (.int .i64 ((i + 1 : Nat) : Int)) ?_
     apply F.es
     exact h15 _ _ _ (by omega : (n2 - (i + 1)) < _) ⟨i + 1, A0_8, n0_8, c0_8, Kn.of, rfl, (by omega), (by omega), x6, (by rw [aroundI_no hx149 (by have h9 := wet_eqI (b := x148.node) hx181 (by omega); have h8 := wet_eqI (b := 9 + findL ps x148.pipe) hx191 (by omega); rw [← h9, ← h8]; exact q194)]; exact ho187), nb0_8_b2, rd196, sp0_7_8, c195⟩
    refine Fq (.bool true) (r_neqB (m := x180) (n := x190) rfl ek ek kk (by rw [(beq_eq_false_iff_ne.2 q194)]; try rfl)) ?_
    apply F.es
    have x6 := Sk s186 x6 onn
    have c197 := (Sb c174 s186 nkk)
    have rd198 := Rk rd175 (SG.below s186)
    apply h20
    refine wp_cond_true ek ?_
    refine W.region_plain (row := (Value.ownBlock (.slice A0_8 n0_8 c0_8))) [(0, false), (1, false), (2, true), (3, true), (4, false)] kk ?_
    have s199 := SG.self w185 (Value.ownBlock (.slice A0_8 n0_8 c0_8))
    refine Fv (.slice A0_8 n0_8 c0_8) ?_
    refine Fv (.int .i64 (i : Int)) ?_
    refine W.sn (fun b => .slice (some ⟨b, 0, none⟩) 1 1) #[.int .i64 (i : Int)] 3 s199 rfl kk rfl (fun _ => by kernel_rfl) (fun b200 w201 hb202 k203 x204 s205 => ?_)
    apply F.nx
    have lo206 : w.heap.size ≤ b200 := Nl ((Sb c197 s199 (fun kq e => (World.ownsRow.lt ho187 kq e).1))).size (Nat.le_of_eq hb202)
    have ho211 := own_kept ho187 k203
    refine W.sap (e := 3) (size := 1) (base := w.heap.size) (m := 1) (v := .slice A0_8 n0_8 c0_8) (c := 1) s205 rfl rfl rfl rfl kk kk kk ho211 x204 kk kk (by omega) (by omega) (by have := ((Sb c197 s205 (fun kq e => (World.ownsRow.lt ho187 kq e).1))).size; omega) (.inl rfl) (fun g212 cap213 w214 ho215 hg216 hat217 hlt218 s219 => ?_)
    apply F.nx
    have nb220 : Nb b2 (.slice (some ⟨g212, 0, none⟩) (n0_8 + 1) cap213) := nb_app nb0_8_b2 (Nat.lt_of_lt_of_le (blk_lt x6) (s205).size) hat217
    have ho215 := own_snoc ho215
    have sp223 := sp_app (v' := .slice (some ⟨g212, 0, none⟩) (n0_8 + 1) cap213) sp0_7_8 rd198 ((s205).size) (hat3 (v := .slice A0_8 n0_8 c0_8) hat217)
    refine Fa (.slice (some ⟨g212, 0, none⟩) (n0_8 + 1) cap213) ?_
    apply F.es
    have x6 := Sk s219 x6 nb0_8_b2
    have c224 := (Sb c197 s219 (fun kq e => (World.ownsRow.lt ho187 kq e).1))
    have rd225 := rd_sep rd198 s219 sp0_7_8
    apply h18
    refine Rq 2 ?_
    refine Fq (.int .i64 ((i + 1 : Nat) : Int)) (r_add (m := (i : Int)) (n := 1) (z := ((i + 1 : Nat) : Int)) rfl ek ek (by omega) (by omega)) ?_
    refine Fv (.int .i64 ((i + 1 : Nat) : Int)) ?_
    apply F.es
    exact h15 _ _ _ (by omega : (n2 - (i + 1)) < _) ⟨i + 1, (some ⟨g212, 0, none⟩), (n0_8 + 1), cap213, Kn.of, rfl, (by omega), (by omega), x6, (by rw [aroundI_yes hx149 (by have h9 := wet_eqI (b := x148.node) hx181 (by omega); have h8 := wet_eqI (b := 9 + findL ps x148.pipe) hx191 (by omega); rw [← h9, ← h8]; exact q194)]; exact ho215), nb220, rd225, sp223, c224⟩
   refine Fq (.bool false) (r_lss (m := (i : Int)) (n := (n2 : Int)) rfl ek ek (df q146)) ?_
   apply F.es
   apply h16
   refine wk fun K21 h21 => ?_
   refine wp_cond_false ek ?_
   refine wp_exit ?_
   apply h13
   refine wk fun K22 h22 => ?_
   refine Rq 2 ?_
   refine Fv (.slice A0_8 n0_8 c0_8) ?_
   refine Fa (.slice A0_8 n0_8 c0_8) ?_
   apply F.es
   apply h22
   refine wp_ret ?_
   try simp only [Exit.then]
   refine ret1 (v := .slice A0_8 n0_8 c0_8) rfl kk ?_
   exact ⟨_, _, _, rfl, (by rw [show vs.length = i by omega]; exact ho0_8), c145⟩
  refine W.sn (fun b => .slice (some ⟨b, 0, none⟩) 0 0) #[] 3 s15 rfl kk rfl (fun _ => by kernel_rfl) (fun b226 w227 hb228 k229 x230 s231 => ?_)
  apply F.nx
  have lo232 : w.heap.size ≤ b226 := Nl ((Sb c9 s15 nkk)).size (Nat.le_of_eq hb228)
  have ne233 : b2 ≠ b226 := Nat.ne_of_lt (Nat.lt_of_lt_of_eq (Nat.lt_of_lt_of_le (blk_lt x6) (s15).size) hb228)
  refine Fc [.int .i64 (findL ps a)] (element_any (findL ps a) _ (by omega)) ?_
  rintro e w' ⟨rfl, rfl⟩
  refine ⟨_, rfl, s231, ?_⟩
  apply F.nx
  have lb241 := blk_lt x230
  refine Fc [.agg #[.int .i64 m, .slice A n c], .slice A2 n2 c2, .int .i64 (9 + (findL ps a))] (segmentOf_any m A n c ps A2 n2 c2 vs (9 + (findL ps a)) (9 + (findL ps a)).toNat _ (Rk ha (Sb c9 s231 nkk)) (Rk hb (Sb c9 s231 nkk)) (by omega) (by omega) hp (by omega) (by omega) (by omega) (by omega)) ?_
  rintro e w243 ⟨pb236, rfl, lo240, rd237, b242⟩
  have s244 := SG.of_below s231 b242
  refine ⟨_, rfl, s244, ?_⟩
  apply F.nx
  have x230 := (b242.block _ (blk_lt x230)).trans x230
  have sp246 : Sp (some ⟨pb236, 0, none⟩) 19 (some b226) := sp_ptrB (Nat.lt_of_lt_of_le lb241 lo240)
  have hl238 := rd_bools_len rd237
  rw [wetL_len] at hl238
  have hl238 : (wetL (linked ps (openQ vs false)) (9 + (findL ps a))).length = 19 := wetL_len _ _
  refine Fa (.pointer (some ⟨pb236, 0, none⟩)) ?_
  refine Fa (.slice (some ⟨b226, 0, none⟩) 0 0) ?_
  apply F.es
  have x6 := Sk s244 x6 onn
  have c247 := (Sb c9 s244 nkk)
  apply h2
  refine wk fun K23 h23 => ?_
  refine wk fun K24 h24 => ?_
  refine Rq 3 ?_
  refine Fv (.slice A2 n2 c2) ?_
  refine Fq (.int .i64 (n2 : Int)) (r_len (A := A2) (n := n2) (c := c2) rfl ek kk) ?_
  refine Fv (.int .i64 0) ?_
  apply F.es
  apply h24
  refine wp_block ?_
  have ho248 := own_empty (base := w.heap.size) (size := 1) x230 lo232
  replace ho248 : World.ownsRow _ _ _ _ _ _ (intsV []) := ho248
  have sp249 := sp_own (n' := 0) (c := 0) sp246
  have nb250 : Nb b2 (.slice (some ⟨b226, 0, none⟩) 0 0) := nb_new ne233
  refine loopK (fun am0 aa0 wl0 => ∃ (i : Nat) (A0_8 : Option Addr) (n0_8 : Nat) (c0_8 : Nat) , Kn aa0 [(0, .agg #[.int .i64 m, .slice A n c]), (1, .slice A2 n2 c2), (2, .int .i64 a), (3, .pointer (some ⟨b2, 0, none⟩)), (6, .slice none 0 0), (7, .pointer (some ⟨pb236, 0, none⟩)), (8, .slice A0_8 n0_8 c0_8), (19, .slice A2 n2 c2), (20, .int .i64 (n2 : Int)), (21, .int .i64 (i : Int))] 48 ∧ (am0 = n2 - i) ∧ (i ≤ n2) ∧ (n0_8 ≤ i) ∧ (wl0.heap[b2]? = some (.cells #[.int .i64 m, .slice A n c] 26 (0, 0))) ∧ (wl0.ownsRow w.heap.size 3 1 (.slice A0_8 n0_8 c0_8) n0_8 (intsV (aroundI ps vs (9 + findL ps a) i))) ∧ (Nb b2 (.slice A0_8 n0_8 c0_8)) ∧ (Rd wl0 1 (some ⟨pb236, 0, none⟩) 19 (boolsV (wetL (linked ps (openQ vs false)) (9 + (findL ps a))))) ∧ (Sp (some ⟨pb236, 0, none⟩) 19 (Value.ownBlock (.slice A0_8 n0_8 c0_8))) ∧ (Below w.heap.size w wl0)) (n2 - 0) ?_ ?_
  ·exact ⟨0, (some ⟨b226, 0, none⟩), 0, 0, Kn.of, rfl, (Nat.zero_le _), (Nat.zero_le _), x6, ho248, nb250, rd237, sp249, c247⟩
  rintro am0 aa0 wl0 K25 h25 ⟨i, A0_8, n0_8, c0_8, ⟨U0, rfl⟩, rfl, hi, hb8, x6, ho0_8, nb0_8_b2, rd0_7, sp0_7_8, c251⟩
  refine wk fun K26 h26 => ?_
  refine Rq 1 ?_
  by_cases q252 : ((i : Int) : Int) < ((n2 : Int) : Int)
  ·refine Fq (.bool true) (r_lss (m := (i : Int)) (n := (n2 : Int)) rfl ek ek (dt q252)) ?_
   apply F.es
   apply h26
   refine wk fun K27 h27 => ?_
   refine wp_cond_true ek ?_
   apply wp_skip
   apply h27
   refine wk fun K28 h28 => ?_
   refine wp_block ?_
   refine wk fun K29 h29 => ?_
   refine W.region_plain (row := none) [(0, false), (1, false), (2, false), (3, true), (4, false), (5, true)] kk ?_
   have s253 := SG.self wl0 none
   refine Fv (.int .i64 (i : Int)) ?_
   obtain ⟨x254, hx255⟩ := get_of (zs := vs) (k := i) (by have := hl2; omega)
   obtain ⟨b256, o257, hA258, hb259, hc260, hc261, hc262, hc263⟩ := Rd.elValve hb hx255
   refine Fq (.pointer (some ⟨b256, o257 + i * 4, none⟩)) (r_idx (n := n2) (c := c2) (k := i) rfl ek hA258 kk kk (by have := hl2; omega)) ?_
   refine Fq (.agg #[.int .i64 x254.id, .int .i64 x254.pipe, .int .i64 x254.node, .bool x254.shut]) (r_load4 rfl ek kk kk (sgS (later c251 hc260) (by simp)) (sgS (later c251 hc261) (by simp)) (sgS (later c251 hc262) (by simp)) (sgS (later c251 hc263) (by simp))) ?_
   refine W.sn (fun b => .pointer (some ⟨b, 0, none⟩)) #[.int .i64 0, .int .i64 0, .int .i64 0, .bool false] 40 s253 rfl kk rfl (fun _ => by kernel_rfl) (fun b264 w265 hb266 k267 x268 s269 => ?_)
   apply F.nx
   have lo270 : w.heap.size ≤ b264 := Nl ((Sb c251 s253 nkk)).size (Nat.le_of_eq hb266)
   have nb273 : Nb b264 (.slice A0_8 n0_8 c0_8) := nb_hi ho0_8 (Nat.le_of_eq hb266)
   have ho274 := own_kept ho0_8 k267
   refine Fa (.int .i64 (i : Int)) ?_
   refine W.ss (v := .agg #[.int .i64 x254.id, .int .i64 x254.pipe, .int .i64 x254.node, .bool x254.shut]) (j := 0) (news := [.int .i64 x254.id, .int .i64 x254.pipe, .int .i64 x254.node, .bool x254.shut]) (cs' := #[.int .i64 x254.id, .int .i64 x254.pipe, .int .i64 x254.node, .bool x254.shut]) s269 rfl kk rfl rfl kk kk x268 kk kk (by simp) kk kk (.inr (Nl (s253).size (Nat.le_of_eq hb266))) (fun w275 g276 x277 s278 => ?_)
   have ho279 := own_grown ho274 g276 (fun j e1 e2 => by cases e2; exact nb273 e1.symm)
   apply F.es
   have x6 := Sk s278 x6 onn
   have c280 := (Sb c251 s278 nkk)
   have rd281 := Rk rd0_7 (SG.below s278)
   apply h29
   refine wk fun K30 h30 => ?_
   refine W.region_sch (row := none) (Sch.of [(0, false), (1, false), (2, false), (3, false), (4, false), (5, false), (6, false), (7, false), (8, false), (9, false), (12, false), (10, true), (11, true), (13, false), (14, false), (15, false)]) kk kk (fun _ d _ _ _ h => by cases d <;> exact h) kk (fun w282 e283 s284 => ?_)
   have ho285 := own_heap ho279 e283
   refine Fv (.pointer (some ⟨pb236, 0, none⟩)) ?_
   refine Fq (.pointer (some ⟨b264, 2, none⟩)) (r_field (k := 2) rfl ek kk) ?_
   refine Fl (.int .i64 x254.node) (sgS (blk_cell (j := 2) x277 kk) onn) ?_
   refine Fq (.pointer (some ⟨pb236, 0, none⟩)) (r_nilCheck rfl ek) ?_
   obtain ⟨kz, pz, ekz, hkz, hpz, hnz⟩ := hv9.place x254 (List.mem_of_getElem? hx255)
   have hgz := hg.at hpz
   obtain ⟨x286, hx287⟩ := get_of (zs := (wetL (linked ps (openQ vs false)) (9 + (findL ps a)))) (k := x254.node.toNat) (by have := hl238; omega)
   obtain ⟨hb288, hc289⟩ := Rd.elBool rd281 hx287
   refine Fq (.pointer (some ⟨pb236, x254.node.toNat, none⟩)) (r_idxA (len := 19) (k := x254.node.toNat) rfl ek (evk (z := x254.node) kk (by omega)) kk (by omega)) ?_
   refine Fl (.bool x286) (sgS hc289 (by simp)) ?_
   refine Fv (.pointer (some ⟨pb236, 0, none⟩)) ?_
   refine Fq (.agg #[.int .i64 m, .slice A n c]) (r_load2 rfl ek kk kk (sgS (blk_cell (j := 0) x6 kk) onn) (sgS (blk_cell (j := 1) x6 kk) onn)) ?_
   refine Fq (.pointer (some ⟨b264, 1, none⟩)) (r_field (k := 1) rfl ek kk) ?_
   refine Fl (.int .i64 x254.pipe) (sgS (blk_cell (j := 1) x277 kk) onn) ?_
   refine Fq (.pointer (some ⟨pb236, 0, none⟩)) (r_nilCheck rfl ek) ?_
   refine Fc [.agg #[.int .i64 m, .slice A n c], .int .i64 x254.pipe] (pipeIndex_any m A n c ps x254.pipe _ (Rk ha (Sb c280 s284 nkk)) (by omega)) ?_
   rintro e w291 ⟨rfl, b290⟩
   have s292 := SG.of_below s284 b290
   refine ⟨_, rfl, s292, ?_⟩
   apply F.nx
   have ho293 := own_kept ho285 b290
   refine Fc [.int .i64 (findL ps x254.pipe)] (element_any (findL ps x254.pipe) _ (by omega)) ?_
   rintro e w' ⟨rfl, rfl⟩
   refine ⟨_, rfl, s292, ?_⟩
   apply F.nx
   obtain ⟨x296, hx297⟩ := get_of (zs := (wetL (linked ps (openQ vs false)) (9 + (findL ps a)))) (k := (9 + kz)) (by have := hl238; omega)
   obtain ⟨hb298, hc299⟩ := Rd.elBool rd281 hx297
   refine Fq (.pointer (some ⟨pb236, (9 + kz), none⟩)) (r_idxA (len := 19) (k := (9 + kz)) rfl ek (evk (z := 9 + (findL ps x254.pipe)) kk (by omega)) kk (by omega)) ?_
   refine Fl (.bool x296) (sgS hc299 (by simp)) ?_
   by_cases q300 : x286 = x296
   ·refine Fq (.bool false) (r_neqB (m := x286) (n := x296) rfl ek ek kk (by rw [(beq_iff_eq.2 q300)]; try rfl)) ?_
    apply F.es
    have x6 := Sk s292 x6 onn
    have c301 := (Sb c280 s292 nkk)
    have rd302 := Rk rd281 (SG.below s292)
    apply h30
    refine wp_cond_false ek ?_
    apply wp_skip
    apply h28
    refine Rq 2 ?_
    refine Fq (.int .i64 ((i + 1 : Nat) : Int)) (r_add (m := (i : Int)) (n := 1) (z := ((i + 1 : Nat) : Int)) rfl ek ek (by omega) (by omega)) ?_
    refine Fv (.int .i64 ((i + 1 : Nat) : Int)) ?_
    apply F.es
    exact h25 _ _ _ (by omega : (n2 - (i + 1)) < _) ⟨i + 1, A0_8, n0_8, c0_8, Kn.of, rfl, (by omega), (by omega), x6, (by rw [aroundI_no hx255 (by have h9 := wet_eqI (b := x254.node) hx287 (by omega); have h8 := wet_eqI (b := 9 + findL ps x254.pipe) hx297 (by omega); rw [← h9, ← h8]; exact q300)]; exact ho293), nb0_8_b2, rd302, sp0_7_8, c301⟩
   refine Fq (.bool true) (r_neqB (m := x286) (n := x296) rfl ek ek kk (by rw [(beq_eq_false_iff_ne.2 q300)]; try rfl)) ?_
   apply F.es
   have x6 := Sk s292 x6 onn
   have c303 := (Sb c280 s292 nkk)
   have rd304 := Rk rd281 (SG.below s292)
   apply h30
   refine wp_cond_true ek ?_
   refine W.region_plain (row := (Value.ownBlock (.slice A0_8 n0_8 c0_8))) [(0, false), (1, false), (2, true), (3, true), (4, false)] kk ?_
   have s305 := SG.self w291 (Value.ownBlock (.slice A0_8 n0_8 c0_8))
   refine Fv (.slice A0_8 n0_8 c0_8) ?_
   refine Fv (.int .i64 (i : Int)) ?_
   refine W.sn (fun b => .slice (some ⟨b, 0, none⟩) 1 1) #[.int .i64 (i : Int)] 3 s305 rfl kk rfl (fun _ => by kernel_rfl) (fun b306 w307 hb308 k309 x310 s311 => ?_)
   apply F.nx
   have lo312 : w.heap.size ≤ b306 := Nl ((Sb c303 s305 (fun kq e => (World.ownsRow.lt ho293 kq e).1))).size (Nat.le_of_eq hb308)
   have ho317 := own_kept ho293 k309
   refine W.sap (e := 3) (size := 1) (base := w.heap.size) (m := 1) (v := .slice A0_8 n0_8 c0_8) (c := 1) s311 rfl rfl rfl rfl kk kk kk ho317 x310 kk kk (by omega) (by omega) (by have := ((Sb c303 s311 (fun kq e => (World.ownsRow.lt ho293 kq e).1))).size; omega) (.inl rfl) (fun g318 cap319 w320 ho321 hg322 hat323 hlt324 s325 => ?_)
   apply F.nx
   have nb326 : Nb b2 (.slice (some ⟨g318, 0, none⟩) (n0_8 + 1) cap319) := nb_app nb0_8_b2 (Nat.lt_of_lt_of_le (blk_lt x6) (s311).size) hat323
   have ho321 := own_snoc ho321
   have sp329 := sp_app (v' := .slice (some ⟨g318, 0, none⟩) (n0_8 + 1) cap319) sp0_7_8 rd304 ((s311).size) (hat3 (v := .slice A0_8 n0_8 c0_8) hat323)
   refine Fa (.slice (some ⟨g318, 0, none⟩) (n0_8 + 1) cap319) ?_
   apply F.es
   have x6 := Sk s325 x6 nb0_8_b2
   have c330 := (Sb c303 s325 (fun kq e => (World.ownsRow.lt ho293 kq e).1))
   have rd331 := rd_sep rd304 s325 sp0_7_8
   apply h28
   refine Rq 2 ?_
   refine Fq (.int .i64 ((i + 1 : Nat) : Int)) (r_add (m := (i : Int)) (n := 1) (z := ((i + 1 : Nat) : Int)) rfl ek ek (by omega) (by omega)) ?_
   refine Fv (.int .i64 ((i + 1 : Nat) : Int)) ?_
   apply F.es
   exact h25 _ _ _ (by omega : (n2 - (i + 1)) < _) ⟨i + 1, (some ⟨g318, 0, none⟩), (n0_8 + 1), cap319, Kn.of, rfl, (by omega), (by omega), x6, (by rw [aroundI_yes hx255 (by have h9 := wet_eqI (b := x254.node) hx287 (by omega); have h8 := wet_eqI (b := 9 + findL ps x254.pipe) hx297 (by omega); rw [← h9, ← h8]; exact q300)]; exact ho321), nb326, rd331, sp329, c330⟩
  refine Fq (.bool false) (r_lss (m := (i : Int)) (n := (n2 : Int)) rfl ek ek (df q252)) ?_
  apply F.es
  apply h26
  refine wk fun K31 h31 => ?_
  refine wp_cond_false ek ?_
  refine wp_exit ?_
  apply h23
  refine wk fun K32 h32 => ?_
  refine Rq 2 ?_
  refine Fv (.slice A0_8 n0_8 c0_8) ?_
  refine Fa (.slice A0_8 n0_8 c0_8) ?_
  apply F.es
  apply h32
  refine wp_ret ?_
  try simp only [Exit.then]
  refine ret1 (v := .slice A0_8 n0_8 c0_8) rfl kk ?_
  exact ⟨_, _, _, rfl, (by rw [show vs.length = i by omega]; exact ho0_8), c251⟩
 refine W.sn (fun b => .slice (some ⟨b, 0, none⟩) 0 0) #[] 3 s12 rfl kk rfl (fun _ => by kernel_rfl) (fun b332 w333 hb334 k335 x336 s337 => ?_)
 apply F.nx
 have lo338 : w.heap.size ≤ b332 := Nl ((Sb c9 s12 nkk)).size (Nat.le_of_eq hb334)
 have ne339 : b2 ≠ b332 := Nat.ne_of_lt (Nat.lt_of_lt_of_eq (Nat.lt_of_lt_of_le (blk_lt x6) (s12).size) hb334)
 refine Fc [.agg #[.int .i64 m, .slice A n c], .int .i64 a] (pipeIndex_any m A n c ps a _ (Rk ha (Sb c9 s337 nkk)) (by omega)) ?_
 rintro e w341 ⟨rfl, b340⟩
 have s342 := SG.of_below s337 b340
 refine ⟨_, rfl, s342, ?_⟩
 apply F.nx
 have x336 := (b340.block _ (blk_lt x336)).trans x336
 refine Fc [.int .i64 (findL ps a)] (element_any (findL ps a) _ (by omega)) ?_
 rintro e w' ⟨rfl, rfl⟩
 refine ⟨_, rfl, s342, ?_⟩
 apply F.nx
 have lb350 := blk_lt x336
 refine Fc [.agg #[.int .i64 m, .slice A n c], .slice A2 n2 c2, .int .i64 (9 + (findL ps a))] (segmentOf_any m A n c ps A2 n2 c2 vs (9 + (findL ps a)) (9 + (findL ps a)).toNat _ (Rk ha (Sb c9 s342 nkk)) (Rk hb (Sb c9 s342 nkk)) (by omega) (by omega) hp (by omega) (by omega) (by omega) (by omega)) ?_
 rintro e w352 ⟨pb345, rfl, lo349, rd346, b351⟩
 have s353 := SG.of_below s342 b351
 refine ⟨_, rfl, s353, ?_⟩
 apply F.nx
 have x336 := (b351.block _ (blk_lt x336)).trans x336
 have sp355 : Sp (some ⟨pb345, 0, none⟩) 19 (some b332) := sp_ptrB (Nat.lt_of_lt_of_le lb350 lo349)
 have hl347 := rd_bools_len rd346
 rw [wetL_len] at hl347
 have hl347 : (wetL (linked ps (openQ vs false)) (9 + (findL ps a))).length = 19 := wetL_len _ _
 refine Fa (.pointer (some ⟨pb345, 0, none⟩)) ?_
 refine Fa (.slice (some ⟨b332, 0, none⟩) 0 0) ?_
 apply F.es
 have x6 := Sk s353 x6 onn
 have c356 := (Sb c9 s353 nkk)
 apply h2
 refine wk fun K33 h33 => ?_
 refine wk fun K34 h34 => ?_
 refine Rq 3 ?_
 refine Fv (.slice A2 n2 c2) ?_
 refine Fq (.int .i64 (n2 : Int)) (r_len (A := A2) (n := n2) (c := c2) rfl ek kk) ?_
 refine Fv (.int .i64 0) ?_
 apply F.es
 apply h34
 refine wp_block ?_
 have ho357 := own_empty (base := w.heap.size) (size := 1) x336 lo338
 replace ho357 : World.ownsRow _ _ _ _ _ _ (intsV []) := ho357
 have sp358 := sp_own (n' := 0) (c := 0) sp355
 have nb359 : Nb b2 (.slice (some ⟨b332, 0, none⟩) 0 0) := nb_new ne339
 refine loopK (fun am0 aa0 wl0 => ∃ (i : Nat) (A0_8 : Option Addr) (n0_8 : Nat) (c0_8 : Nat) , Kn aa0 [(0, .agg #[.int .i64 m, .slice A n c]), (1, .slice A2 n2 c2), (2, .int .i64 a), (3, .pointer (some ⟨b2, 0, none⟩)), (6, .slice none 0 0), (7, .pointer (some ⟨pb345, 0, none⟩)), (8, .slice A0_8 n0_8 c0_8), (19, .slice A2 n2 c2), (20, .int .i64 (n2 : Int)), (21, .int .i64 (i : Int))] 48 ∧ (am0 = n2 - i) ∧ (i ≤ n2) ∧ (n0_8 ≤ i) ∧ (wl0.heap[b2]? = some (.cells #[.int .i64 m, .slice A n c] 26 (0, 0))) ∧ (wl0.ownsRow w.heap.size 3 1 (.slice A0_8 n0_8 c0_8) n0_8 (intsV (aroundI ps vs (9 + findL ps a) i))) ∧ (Nb b2 (.slice A0_8 n0_8 c0_8)) ∧ (Rd wl0 1 (some ⟨pb345, 0, none⟩) 19 (boolsV (wetL (linked ps (openQ vs false)) (9 + (findL ps a))))) ∧ (Sp (some ⟨pb345, 0, none⟩) 19 (Value.ownBlock (.slice A0_8 n0_8 c0_8))) ∧ (Below w.heap.size w wl0)) (n2 - 0) ?_ ?_
 ·exact ⟨0, (some ⟨b332, 0, none⟩), 0, 0, Kn.of, rfl, (Nat.zero_le _), (Nat.zero_le _), x6, ho357, nb359, rd346, sp358, c356⟩
 rintro am0 aa0 wl0 K35 h35 ⟨i, A0_8, n0_8, c0_8, ⟨U0, rfl⟩, rfl, hi, hb8, x6, ho0_8, nb0_8_b2, rd0_7, sp0_7_8, c360⟩
 refine wk fun K36 h36 => ?_
 refine Rq 1 ?_
 by_cases q361 : ((i : Int) : Int) < ((n2 : Int) : Int)
 ·refine Fq (.bool true) (r_lss (m := (i : Int)) (n := (n2 : Int)) rfl ek ek (dt q361)) ?_
  apply F.es
  apply h36
  refine wk fun K37 h37 => ?_
  refine wp_cond_true ek ?_
  apply wp_skip
  apply h37
  refine wk fun K38 h38 => ?_
  refine wp_block ?_
  refine wk fun K39 h39 => ?_
  refine W.region_plain (row := none) [(0, false), (1, false), (2, false), (3, true), (4, false), (5, true)] kk ?_
  have s362 := SG.self wl0 none
  refine Fv (.int .i64 (i : Int)) ?_
  obtain ⟨x363, hx364⟩ := get_of (zs := vs) (k := i) (by have := hl2; omega)
  obtain ⟨b365, o366, hA367, hb368, hc369, hc370, hc371, hc372⟩ := Rd.elValve hb hx364
  refine Fq (.pointer (some ⟨b365, o366 + i * 4, none⟩)) (r_idx (n := n2) (c := c2) (k := i) rfl ek hA367 kk kk (by have := hl2; omega)) ?_
  refine Fq (.agg #[.int .i64 x363.id, .int .i64 x363.pipe, .int .i64 x363.node, .bool x363.shut]) (r_load4 rfl ek kk kk (sgS (later c360 hc369) (by simp)) (sgS (later c360 hc370) (by simp)) (sgS (later c360 hc371) (by simp)) (sgS (later c360 hc372) (by simp))) ?_
  refine W.sn (fun b => .pointer (some ⟨b, 0, none⟩)) #[.int .i64 0, .int .i64 0, .int .i64 0, .bool false] 40 s362 rfl kk rfl (fun _ => by kernel_rfl) (fun b373 w374 hb375 k376 x377 s378 => ?_)
  apply F.nx
  have lo379 : w.heap.size ≤ b373 := Nl ((Sb c360 s362 nkk)).size (Nat.le_of_eq hb375)
  have nb382 : Nb b373 (.slice A0_8 n0_8 c0_8) := nb_hi ho0_8 (Nat.le_of_eq hb375)
  have ho383 := own_kept ho0_8 k376
  refine Fa (.int .i64 (i : Int)) ?_
  refine W.ss (v := .agg #[.int .i64 x363.id, .int .i64 x363.pipe, .int .i64 x363.node, .bool x363.shut]) (j := 0) (news := [.int .i64 x363.id, .int .i64 x363.pipe, .int .i64 x363.node, .bool x363.shut]) (cs' := #[.int .i64 x363.id, .int .i64 x363.pipe, .int .i64 x363.node, .bool x363.shut]) s378 rfl kk rfl rfl kk kk x377 kk kk (by simp) kk kk (.inr (Nl (s362).size (Nat.le_of_eq hb375))) (fun w384 g385 x386 s387 => ?_)
  have ho388 := own_grown ho383 g385 (fun j e1 e2 => by cases e2; exact nb382 e1.symm)
  apply F.es
  have x6 := Sk s387 x6 onn
  have c389 := (Sb c360 s387 nkk)
  have rd390 := Rk rd0_7 (SG.below s387)
  apply h39
  refine wk fun K40 h40 => ?_
  refine W.region_sch (row := none) (Sch.of [(0, false), (1, false), (2, false), (3, false), (4, false), (5, false), (6, false), (7, false), (8, false), (9, false), (12, false), (10, true), (11, true), (13, false), (14, false), (15, false)]) kk kk (fun _ d _ _ _ h => by cases d <;> exact h) kk (fun w391 e392 s393 => ?_)
  have ho394 := own_heap ho388 e392
  refine Fv (.pointer (some ⟨pb345, 0, none⟩)) ?_
  refine Fq (.pointer (some ⟨b373, 2, none⟩)) (r_field (k := 2) rfl ek kk) ?_
  refine Fl (.int .i64 x363.node) (sgS (blk_cell (j := 2) x386 kk) onn) ?_
  refine Fq (.pointer (some ⟨pb345, 0, none⟩)) (r_nilCheck rfl ek) ?_
  obtain ⟨kz, pz, ekz, hkz, hpz, hnz⟩ := hv9.place x363 (List.mem_of_getElem? hx364)
  have hgz := hg.at hpz
  obtain ⟨x395, hx396⟩ := get_of (zs := (wetL (linked ps (openQ vs false)) (9 + (findL ps a)))) (k := x363.node.toNat) (by have := hl347; omega)
  obtain ⟨hb397, hc398⟩ := Rd.elBool rd390 hx396
  refine Fq (.pointer (some ⟨pb345, x363.node.toNat, none⟩)) (r_idxA (len := 19) (k := x363.node.toNat) rfl ek (evk (z := x363.node) kk (by omega)) kk (by omega)) ?_
  refine Fl (.bool x395) (sgS hc398 (by simp)) ?_
  refine Fv (.pointer (some ⟨pb345, 0, none⟩)) ?_
  refine Fq (.agg #[.int .i64 m, .slice A n c]) (r_load2 rfl ek kk kk (sgS (blk_cell (j := 0) x6 kk) onn) (sgS (blk_cell (j := 1) x6 kk) onn)) ?_
  refine Fq (.pointer (some ⟨b373, 1, none⟩)) (r_field (k := 1) rfl ek kk) ?_
  refine Fl (.int .i64 x363.pipe) (sgS (blk_cell (j := 1) x386 kk) onn) ?_
  refine Fq (.pointer (some ⟨pb345, 0, none⟩)) (r_nilCheck rfl ek) ?_
  refine Fc [.agg #[.int .i64 m, .slice A n c], .int .i64 x363.pipe] (pipeIndex_any m A n c ps x363.pipe _ (Rk ha (Sb c389 s393 nkk)) (by omega)) ?_
  rintro e w400 ⟨rfl, b399⟩
  have s401 := SG.of_below s393 b399
  refine ⟨_, rfl, s401, ?_⟩
  apply F.nx
  have ho402 := own_kept ho394 b399
  refine Fc [.int .i64 (findL ps x363.pipe)] (element_any (findL ps x363.pipe) _ (by omega)) ?_
  rintro e w' ⟨rfl, rfl⟩
  refine ⟨_, rfl, s401, ?_⟩
  apply F.nx
  obtain ⟨x405, hx406⟩ := get_of (zs := (wetL (linked ps (openQ vs false)) (9 + (findL ps a)))) (k := (9 + kz)) (by have := hl347; omega)
  obtain ⟨hb407, hc408⟩ := Rd.elBool rd390 hx406
  refine Fq (.pointer (some ⟨pb345, (9 + kz), none⟩)) (r_idxA (len := 19) (k := (9 + kz)) rfl ek (evk (z := 9 + (findL ps x363.pipe)) kk (by omega)) kk (by omega)) ?_
  refine Fl (.bool x405) (sgS hc408 (by simp)) ?_
  by_cases q409 : x395 = x405
  ·refine Fq (.bool false) (r_neqB (m := x395) (n := x405) rfl ek ek kk (by rw [(beq_iff_eq.2 q409)]; try rfl)) ?_
   apply F.es
   have x6 := Sk s401 x6 onn
   have c410 := (Sb c389 s401 nkk)
   have rd411 := Rk rd390 (SG.below s401)
   apply h40
   refine wp_cond_false ek ?_
   apply wp_skip
   apply h38
   refine Rq 2 ?_
   refine Fq (.int .i64 ((i + 1 : Nat) : Int)) (r_add (m := (i : Int)) (n := 1) (z := ((i + 1 : Nat) : Int)) rfl ek ek (by omega) (by omega)) ?_
   refine Fv (.int .i64 ((i + 1 : Nat) : Int)) ?_
   apply F.es
   exact h35 _ _ _ (by omega : (n2 - (i + 1)) < _) ⟨i + 1, A0_8, n0_8, c0_8, Kn.of, rfl, (by omega), (by omega), x6, (by rw [aroundI_no hx364 (by have h9 := wet_eqI (b := x363.node) hx396 (by omega); have h8 := wet_eqI (b := 9 + findL ps x363.pipe) hx406 (by omega); rw [← h9, ← h8]; exact q409)]; exact ho402), nb0_8_b2, rd411, sp0_7_8, c410⟩
  refine Fq (.bool true) (r_neqB (m := x395) (n := x405) rfl ek ek kk (by rw [(beq_eq_false_iff_ne.2 q409)]; try rfl)) ?_
  apply F.es
  have x6 := Sk s401 x6 onn
  have c412 := (Sb c389 s401 nkk)
  have rd413 := Rk rd390 (SG.below s401)
  apply h40
  refine wp_cond_true ek ?_
  refine W.region_plain (row := (Value.ownBlock (.slice A0_8 n0_8 c0_8))) [(0, false), (1, false), (2, true), (3, true), (4, false)] kk ?_
  have s414 := SG.self w400 (Value.ownBlock (.slice A0_8 n0_8 c0_8))
  refine Fv (.slice A0_8 n0_8 c0_8) ?_
  refine Fv (.int .i64 (i : Int)) ?_
  refine W.sn (fun b => .slice (some ⟨b, 0, none⟩) 1 1) #[.int .i64 (i : Int)] 3 s414 rfl kk rfl (fun _ => by kernel_rfl) (fun b415 w416 hb417 k418 x419 s420 => ?_)
  apply F.nx
  have lo421 : w.heap.size ≤ b415 := Nl ((Sb c412 s414 (fun kq e => (World.ownsRow.lt ho402 kq e).1))).size (Nat.le_of_eq hb417)
  have ho426 := own_kept ho402 k418
  refine W.sap (e := 3) (size := 1) (base := w.heap.size) (m := 1) (v := .slice A0_8 n0_8 c0_8) (c := 1) s420 rfl rfl rfl rfl kk kk kk ho426 x419 kk kk (by omega) (by omega) (by have := ((Sb c412 s420 (fun kq e => (World.ownsRow.lt ho402 kq e).1))).size; omega) (.inl rfl) (fun g427 cap428 w429 ho430 hg431 hat432 hlt433 s434 => ?_)
  apply F.nx
  have nb435 : Nb b2 (.slice (some ⟨g427, 0, none⟩) (n0_8 + 1) cap428) := nb_app nb0_8_b2 (Nat.lt_of_lt_of_le (blk_lt x6) (s420).size) hat432
  have ho430 := own_snoc ho430
  have sp438 := sp_app (v' := .slice (some ⟨g427, 0, none⟩) (n0_8 + 1) cap428) sp0_7_8 rd413 ((s420).size) (hat3 (v := .slice A0_8 n0_8 c0_8) hat432)
  refine Fa (.slice (some ⟨g427, 0, none⟩) (n0_8 + 1) cap428) ?_
  apply F.es
  have x6 := Sk s434 x6 nb0_8_b2
  have c439 := (Sb c412 s434 (fun kq e => (World.ownsRow.lt ho402 kq e).1))
  have rd440 := rd_sep rd413 s434 sp0_7_8
  apply h38
  refine Rq 2 ?_
  refine Fq (.int .i64 ((i + 1 : Nat) : Int)) (r_add (m := (i : Int)) (n := 1) (z := ((i + 1 : Nat) : Int)) rfl ek ek (by omega) (by omega)) ?_
  refine Fv (.int .i64 ((i + 1 : Nat) : Int)) ?_
  apply F.es
  exact h35 _ _ _ (by omega : (n2 - (i + 1)) < _) ⟨i + 1, (some ⟨g427, 0, none⟩), (n0_8 + 1), cap428, Kn.of, rfl, (by omega), (by omega), x6, (by rw [aroundI_yes hx364 (by have h9 := wet_eqI (b := x363.node) hx396 (by omega); have h8 := wet_eqI (b := 9 + findL ps x363.pipe) hx406 (by omega); rw [← h9, ← h8]; exact q409)]; exact ho430), nb435, rd440, sp438, c439⟩
 refine Fq (.bool false) (r_lss (m := (i : Int)) (n := (n2 : Int)) rfl ek ek (df q361)) ?_
 apply F.es
 apply h36
 refine wk fun K41 h41 => ?_
 refine wp_cond_false ek ?_
 refine wp_exit ?_
 apply h33
 refine wk fun K42 h42 => ?_
 refine Rq 2 ?_
 refine Fv (.slice A0_8 n0_8 c0_8) ?_
 refine Fa (.slice A0_8 n0_8 c0_8) ?_
 apply F.es
 apply h42
 refine wp_ret ?_
 try simp only [Exit.then]
 refine ret1 (v := .slice A0_8 n0_8 c0_8) rfl kk ?_
 exact ⟨_, _, _, rfl, (by rw [show vs.length = i by omega]; exact ho0_8), c360⟩
set_option maxRecDepth 100000 in
set_option maxHeartbeats 8000000 in
theorem l4Around_any (m : Int) (A : Option Addr) (n c : Nat) (ps : List Pp) (A2 : Option Addr) (n2 c2 : Nat) (vs : List Vv) (a : Int) (A3 : Option Addr) (n3 c3 : Nat) (A4 : Option Addr) (n4 c4 : Nat) (w : World) (ha : Rd w 4 A n (pipesV ps)) (hb : Rd w 4 A2 n2 (valvesV vs)) (hn : n ≤ 1048576) (hn2 : n2 ≤ 1048576) (hv9 : GoodVal m ps vs) (hfa : 0 ≤ findL ps a) (hy : Rd w 1 A3 n3 (intsV (nodesL (linked ps (openQ vs false)) m.toNat (9 + findL ps a) true))) (hx : Rd w 1 A4 n4 (intsV (idxL (linked ps (openQ vs false)) ps.length (9 + findL ps a) true))) :
    Calls Try.prog 86 #[.agg #[.int .i64 m, .slice A n c], .slice A2 n2 c2, .slice A3 n3 c3, .slice A4 n4 c4] w fun e w' => ∃ A' n' c', e = .returned (.slice A' n' c') ∧ w'.ownsRow w.heap.size 3 1 (.slice A' n' c') n' (intsV (aroundI ps vs (9 + findL ps a) vs.length)) ∧ Below w.heap.size w w' := by
 have hl := rd_pipes_len ha
 have hl2 := rd_valves_len hb
 have hg := hv9.net
 have hgl := hg.lo
 have hgh := hg.hi
 have hp := hg.pipesIn
 have hlen10 := hg.len
 have hu := hv9.uniq
 have hvl := hv9.len
 have hfl := findL_lt ps a
 have hly := rd_ints_len hy
 have hlx := rd_ints_len hx
 have := nodesL_len (linked ps (openQ vs false)) m.toNat (9 + findL ps a) true
 have := idxL_len (linked ps (openQ vs false)) ps.length (9 + findL ps a) true
 go_enter Try.func86, Try.ntmps86
 refine F.begin 40 [(0, .agg #[.int .i64 m, .slice A n c]), (1, .slice A2 n2 c2), (2, .slice A3 n3 c3), (3, .slice A4 n4 c4)] (fun U0 => ?_)
 refine wk fun K1 h1 => ?_
 refine W.region_plain (row := none) [(0, true), (1, false)] kk ?_
 have s1 := SG.self w none
 refine W.sn (fun b => .pointer (some ⟨b, 0, none⟩)) #[.int .i64 m, .slice A n c] 26 s1 rfl kk rfl (fun _ => by kernel_rfl) (fun b2 w3 hb4 k5 x6 s7 => ?_)
 apply F.nx
 have lo8 : w.heap.size ≤ b2 := Nl ((Sb (Below.refl _ _) s1 nkk)).size (Nat.le_of_eq hb4)
 refine Fa (.slice none 0 0) ?_
 apply F.es
 have c9 := (Sb (Below.refl _ _) s7 nkk)
 apply h1
 refine wk fun K2 h2 => ?_
 refine W.region_plain (row := none) [(0, true), (1, false)] kk ?_
 have s10 := SG.self w3 none
 refine W.sn (fun b => .slice (some ⟨b, 0, none⟩) 0 0) #[] 3 s10 rfl kk rfl (fun _ => by kernel_rfl) (fun b11 w12 hb13 k14 x15 s16 => ?_)
 apply F.nx
 have lo17 : w.heap.size ≤ b11 := Nl ((Sb c9 s10 nkk)).size (Nat.le_of_eq hb13)
 have ne18 : b2 ≠ b11 := Nat.ne_of_lt (Nat.lt_of_lt_of_eq (Nat.lt_of_lt_of_le (blk_lt x6) (s10).size) hb13)
 refine Fa (.slice (some ⟨b11, 0, none⟩) 0 0) ?_
 apply F.es
 have x6 := Sk s16 x6 onn
 have c19 := (Sb c9 s16 nkk)
 apply h2
 refine wk fun K3 h3 => ?_
 refine wk fun K4 h4 => ?_
 refine Rq 1 ?_
 refine Fa (.int .i64 0) ?_
 apply F.es
 apply h4
 refine wp_block ?_
 have ho20 := own_empty (base := w.heap.size) (size := 1) x15 lo17
 replace ho20 : World.ownsRow _ _ _ _ _ _ (intsV []) := ho20
 have nb21 : Nb b2 (.slice (some ⟨b11, 0, none⟩) 0 0) := nb_new ne18
 refine loopK (fun am0 aa0 wl0 => ∃ (i : Nat) (A0_9 : Option Addr) (n0_9 : Nat) (c0_9 : Nat) , Kn aa0 [(0, .agg #[.int .i64 m, .slice A n c]), (1, .slice A2 n2 c2), (2, .slice A3 n3 c3), (3, .slice A4 n4 c4), (4, .pointer (some ⟨b2, 0, none⟩)), (8, .slice none 0 0), (9, .slice A0_9 n0_9 c0_9), (10, .int .i64 (i : Int))] 40 ∧ (am0 = n2 - i) ∧ (i ≤ n2) ∧ (n0_9 ≤ i) ∧ (wl0.heap[b2]? = some (.cells #[.int .i64 m, .slice A n c] 26 (0, 0))) ∧ (wl0.ownsRow w.heap.size 3 1 (.slice A0_9 n0_9 c0_9) n0_9 (intsV (aroundI ps vs (9 + findL ps a) i))) ∧ (Nb b2 (.slice A0_9 n0_9 c0_9)) ∧ (Below w.heap.size w wl0)) (n2 - 0) ?_ ?_
 ·exact ⟨0, (some ⟨b11, 0, none⟩), 0, 0, Kn.of, rfl, (Nat.zero_le _), (Nat.zero_le _), x6, ho20, nb21, c19⟩
 rintro am0 aa0 wl0 K5 h5 ⟨i, A0_9, n0_9, c0_9, ⟨U0, rfl⟩, rfl, hi, hb9, x6, ho0_9, nb0_9_b2, c22⟩
 refine wk fun K6 h6 => ?_
 refine wk fun K7 h7 => ?_
 refine Rq 4 ?_
 refine Fv (.int .i64 (i : Int)) ?_
 refine Fv (.slice A2 n2 c2) ?_
 refine Fq (.int .i64 (n2 : Int)) (r_len (A := A2) (n := n2) (c := c2) rfl ek kk) ?_
 by_cases q23 : ((i : Int) : Int) < ((n2 : Int) : Int)
 ·refine Fq (.bool true) (r_lss (m := (i : Int)) (n := (n2 : Int)) rfl ek ek (dt q23)) ?_
  apply F.es
  apply h7
  refine wp_cond_true ek ?_
  apply wp_skip
  apply h6
  refine wk fun K8 h8 => ?_
  refine wp_block ?_
  refine wk fun K9 h9 => ?_
  refine W.region_sch (row := none) (Sch.of [(0, false), (1, false), (2, false), (3, false), (4, false), (5, false), (7, false), (8, false), (9, false), (10, false), (11, false), (12, false), (13, false), (6, true), (14, true), (15, true), (16, false)]) kk kk (fun _ d _ _ _ h => by cases d <;> exact h) kk (fun w24 e25 s26 => ?_)
  have ho27 := own_heap ho0_9 e25
  refine Fv (.slice A3 n3 c3) ?_
  refine Fv (.slice A2 n2 c2) ?_
  refine Fv (.int .i64 (i : Int)) ?_
  obtain ⟨x28, hx29⟩ := get_of (zs := vs) (k := i) (by have := hl2; omega)
  obtain ⟨b30, o31, hA32, hb33, hc34, hc35, hc36, hc37⟩ := Rd.elValve hb hx29
  refine Fq (.pointer (some ⟨b30, o31 + i * 4, none⟩)) (r_idx (n := n2) (c := c2) (k := i) rfl ek hA32 kk kk (by have := hl2; omega)) ?_
  refine Fq (.pointer (some ⟨b30, o31 + i * 4 + 2, none⟩)) (r_field (k := 2) rfl ek kk) ?_
  refine Fl (.int .i64 x28.node) (sgS (later c22 hc36) (by simp)) ?_
  refine Fv (.slice A4 n4 c4) ?_
  refine Fq (.agg #[.int .i64 m, .slice A n c]) (r_load2 rfl ek kk kk (sgS (blk_cell (j := 0) x6 kk) onn) (sgS (blk_cell (j := 1) x6 kk) onn)) ?_
  refine Fv (.slice A2 n2 c2) ?_
  refine Fv (.int .i64 (i : Int)) ?_
  refine Fq (.pointer (some ⟨b30, o31 + i * 4, none⟩)) (r_idx (n := n2) (c := c2) (k := i) rfl ek hA32 kk kk (by have := hl2; omega)) ?_
  refine Fq (.pointer (some ⟨b30, o31 + i * 4 + 1, none⟩)) (r_field (k := 1) rfl ek kk) ?_
  refine Fl (.int .i64 x28.pipe) (sgS (later c22 hc35) (by simp)) ?_
  obtain ⟨kz, pz, ekz, hkz, hpz, hnz⟩ := hv9.place x28 (List.mem_of_getElem? hx29)
  have hgz := hg.at hpz
  refine Fc [.slice A3 n3 c3, .int .i64 x28.node] (l1Has_any A3 n3 c3 (nodesL (linked ps (openQ vs false)) m.toNat (9 + findL ps a) true) x28.node _ (Rk hy (Sb c22 s26 nkk)) (by omega)) ?_
  rintro e w39 ⟨rfl, b38⟩
  have s40 := SG.of_below s26 b38
  refine ⟨_, rfl, s40, ?_⟩
  apply F.nx
  have ho41 := own_kept ho27 b38
  refine Fc [.agg #[.int .i64 m, .slice A n c], .int .i64 x28.pipe] (l2Find_any m A n c ps x28.pipe _ (Rk ha (Sb c22 s40 nkk)) (by omega)) ?_
  rintro e w43 ⟨rfl, b42⟩
  have s44 := SG.of_below s40 b42
  refine ⟨_, rfl, s44, ?_⟩
  apply F.nx
  have ho45 := own_kept ho41 b42
  refine Fc [.slice A4 n4 c4, .int .i64 (findL ps x28.pipe)] (l1Has_any A4 n4 c4 (idxL (linked ps (openQ vs false)) ps.length (9 + findL ps a) true) (findL ps x28.pipe) _ (Rk hx (Sb c22 s44 nkk)) (by omega)) ?_
  rintro e w47 ⟨rfl, b46⟩
  have s48 := SG.of_below s44 b46
  refine ⟨_, rfl, s48, ?_⟩
  apply F.nx
  have ho49 := own_kept ho45 b46
  by_cases q50 : ((nodesL (linked ps (openQ vs false)) m.toNat (9 + findL ps a) true).contains x28.node) = ((idxL (linked ps (openQ vs false)) ps.length (9 + findL ps a) true).contains (findL ps x28.pipe))
  ·refine Fq (.bool false) (r_neqB (m := ((nodesL (linked ps (openQ vs false)) m.toNat (9 + findL ps a) true).contains x28.node)) (n := ((idxL (linked ps (openQ vs false)) ps.length (9 + findL ps a) true).contains (findL ps x28.pipe))) rfl ek ek kk (by rw [(beq_iff_eq.2 q50)]; try rfl)) ?_
   apply F.es
   have x6 := Sk s48 x6 onn
   have c51 := (Sb c22 s48 nkk)
   apply h9
   refine wp_cond_false ek ?_
   apply wp_skip
   apply h8
   refine Rq 3 ?_
   refine Fv (.int .i64 (i : Int)) ?_
   refine Fq (.int .i64 ((i + 1 : Nat) : Int)) (r_add (m := (i : Int)) (n := 1) (z := ((i + 1 : Nat) : Int)) rfl ek ek (by omega) (by omega)) ?_
   refine Fa (.int .i64 ((i + 1 : Nat) : Int)) ?_
   apply F.es
   exact h5 _ _ _ (by omega : (n2 - (i + 1)) < _) ⟨i + 1, A0_9, n0_9, c0_9, Kn.of, rfl, (by omega), (by omega), x6, (by rw [aroundI_no hx29 (by have h9 := nodesL_has (E := (linked ps (openQ vs false))) (m := m.toNat) (a := (9 + findL ps a)) (b := x28.node) (by omega); have h8 := idxL_has (E := (linked ps (openQ vs false))) (n := ps.length) (a := (9 + findL ps a)) (b := findL ps x28.pipe) (by omega); rw [← h9, ← h8]; exact q50)]; exact ho49), nb0_9_b2, c51⟩
  refine Fq (.bool true) (r_neqB (m := ((nodesL (linked ps (openQ vs false)) m.toNat (9 + findL ps a) true).contains x28.node)) (n := ((idxL (linked ps (openQ vs false)) ps.length (9 + findL ps a) true).contains (findL ps x28.pipe))) rfl ek ek kk (by rw [(beq_eq_false_iff_ne.2 q50)]; try rfl)) ?_
  apply F.es
  have x6 := Sk s48 x6 onn
  have c52 := (Sb c22 s48 nkk)
  apply h9
  refine wp_cond_true ek ?_
  refine W.region_plain (row := (Value.ownBlock (.slice A0_9 n0_9 c0_9))) [(0, false), (1, false), (2, true), (3, true), (4, false)] kk ?_
  have s53 := SG.self w47 (Value.ownBlock (.slice A0_9 n0_9 c0_9))
  refine Fv (.slice A0_9 n0_9 c0_9) ?_
  refine Fv (.int .i64 (i : Int)) ?_
  refine W.sn (fun b => .slice (some ⟨b, 0, none⟩) 1 1) #[.int .i64 (i : Int)] 3 s53 rfl kk rfl (fun _ => by kernel_rfl) (fun b54 w55 hb56 k57 x58 s59 => ?_)
  apply F.nx
  have lo60 : w.heap.size ≤ b54 := Nl ((Sb c52 s53 (fun kq e => (World.ownsRow.lt ho49 kq e).1))).size (Nat.le_of_eq hb56)
  have ho63 := own_kept ho49 k57
  refine W.sap (e := 3) (size := 1) (base := w.heap.size) (m := 1) (v := .slice A0_9 n0_9 c0_9) (c := 1) s59 rfl rfl rfl rfl kk kk kk ho63 x58 kk kk (by omega) (by omega) (by have := ((Sb c52 s59 (fun kq e => (World.ownsRow.lt ho49 kq e).1))).size; omega) (.inl rfl) (fun g64 cap65 w66 ho67 hg68 hat69 hlt70 s71 => ?_)
  apply F.nx
  have nb72 : Nb b2 (.slice (some ⟨g64, 0, none⟩) (n0_9 + 1) cap65) := nb_app nb0_9_b2 (Nat.lt_of_lt_of_le (blk_lt x6) (s59).size) hat69
  have ho67 := own_snoc ho67
  refine Fa (.slice (some ⟨g64, 0, none⟩) (n0_9 + 1) cap65) ?_
  apply F.es
  have x6 := Sk s71 x6 nb0_9_b2
  have c74 := (Sb c52 s71 (fun kq e => (World.ownsRow.lt ho49 kq e).1))
  apply h8
  refine Rq 3 ?_
  refine Fv (.int .i64 (i : Int)) ?_
  refine Fq (.int .i64 ((i + 1 : Nat) : Int)) (r_add (m := (i : Int)) (n := 1) (z := ((i + 1 : Nat) : Int)) rfl ek ek (by omega) (by omega)) ?_
  refine Fa (.int .i64 ((i + 1 : Nat) : Int)) ?_
  apply F.es
  exact h5 _ _ _ (by omega : (n2 - (i + 1)) < _) ⟨i + 1, (some ⟨g64, 0, none⟩), (n0_9 + 1), cap65, Kn.of, rfl, (by omega), (by omega), x6, (by rw [aroundI_yes hx29 (by have h9 := nodesL_has (E := (linked ps (openQ vs false))) (m := m.toNat) (a := (9 + findL ps a)) (b := x28.node) (by omega); have h8 := idxL_has (E := (linked ps (openQ vs false))) (n := ps.length) (a := (9 + findL ps a)) (b := findL ps x28.pipe) (by omega); rw [← h9, ← h8]; exact q50)]; exact ho67), nb72, c74⟩
 refine Fq (.bool false) (r_lss (m := (i : Int)) (n := (n2 : Int)) rfl ek ek (df q23)) ?_
 apply F.es
 apply h7
 refine wp_cond_false ek ?_
 refine wp_exit ?_
 apply h3
 refine wk fun K10 h10 => ?_
 refine Rq 2 ?_
 refine Fv (.slice A0_9 n0_9 c0_9) ?_
 refine Fa (.slice A0_9 n0_9 c0_9) ?_
 apply F.es
 apply h10
 refine wp_ret ?_
 try simp only [Exit.then]
 refine ret1 (v := .slice A0_9 n0_9 c0_9) rfl kk ?_
 exact ⟨_, _, _, rfl, (by rw [show vs.length = i by omega]; exact ho0_9), c22⟩
set_option maxRecDepth 100000 in
set_option maxHeartbeats 8000000 in
theorem ValvesAround_spec (m : Int) (A : Option Addr) (n c : Nat) (ps : List Pp) (A2 : Option Addr) (n2 c2 : Nat) (vs : List Vv) (a : Int) (w : World) (ha : Rd w 4 A n (pipesV ps)) (hb : Rd w 4 A2 n2 (valvesV vs)) (hn : n ≤ 1048576) (hn2 : n2 ≤ 1048576) (hfm : Fm A n c) (hfm2 : Fm A2 n2 c2) :
    Calls Try.prog 17 #[.agg #[.int .i64 m, .slice A n c], .slice A2 n2 c2, .int .i64 a] w fun e w' => ∃ A' d, e = .returned (.tuple #[.slice A' (ValvesAround_v0 m ps vs a).length d, .bool (ValvesAround_v1 m ps vs a)]) ∧ Rd w' 1 A' (ValvesAround_v0 m ps vs a).length (intsV (ValvesAround_v0 m ps vs a)) ∧ Below w.heap.size w w' := by
 have hl := rd_pipes_len ha
 have hl2 := rd_valves_len hb
 have hfl := findL_lt ps a
 go_enter Try.func17, Try.ntmps17
 refine F.begin 59 [(0, .agg #[.int .i64 m, .slice A n c]), (1, .slice A2 n2 c2), (2, .int .i64 a)] (fun U0 => ?_)
 refine wk fun K1 h1 => ?_
 refine W.region_plain (row := none) [(0, true), (1, false), (2, false)] kk ?_
 have s1 := SG.self w none
 refine W.sn (fun b => .pointer (some ⟨b, 0, none⟩)) #[.int .i64 m, .slice A n c] 26 s1 rfl kk rfl (fun _ => by kernel_rfl) (fun b2 w3 hb4 k5 x6 s7 => ?_)
 apply F.nx
 have lo8 : w.heap.size ≤ b2 := Nl ((Sb (Below.refl _ _) s1 nkk)).size (Nat.le_of_eq hb4)
 refine Fa (.slice none 0 0) ?_
 refine Fa (.bool false) ?_
 apply F.es
 have c9 := (Sb (Below.refl _ _) s7 nkk)
 apply h1
 refine wk fun K2 h2 => ?_
 refine W.region_plain (row := none) [(0, true), (1, false)] kk ?_
 have s10 := SG.self w3 none
 refine W.sn (fun b => .slice (some ⟨b, 0, none⟩) 0 0) #[] 3 s10 rfl kk rfl (fun _ => by kernel_rfl) (fun b11 w12 hb13 k14 x15 s16 => ?_)
 apply F.nx
 have lo17 : w.heap.size ≤ b11 := Nl ((Sb c9 s10 nkk)).size (Nat.le_of_eq hb13)
 have ne18 : b2 ≠ b11 := Nat.ne_of_lt (Nat.lt_of_lt_of_eq (Nat.lt_of_lt_of_le (blk_lt x6) (s10).size) hb13)
 refine Fa (.slice (some ⟨b11, 0, none⟩) 0 0) ?_
 apply F.es
 have x6 := Sk s16 x6 onn
 have c19 := (Sb c9 s16 nkk)
 apply h2
 refine wk fun K3 h3 => ?_
 refine W.region_plain (row := none) [(0, false), (1, false), (2, true), (3, false)] kk ?_
 have s20 := SG.self w12 none
 refine Fq (.agg #[.int .i64 m, .slice A n c]) (r_load2 rfl ek kk kk (sgS (blk_cell (j := 0) x6 kk) onn) (sgS (blk_cell (j := 1) x6 kk) onn)) ?_
 refine Fv (.int .i64 a) ?_
 refine Fc [.agg #[.int .i64 m, .slice A n c], .int .i64 a] (l2Find_any m A n c ps a _ (Rk ha (Sb c19 s20 nkk)) (by omega)) ?_
 rintro e w22 ⟨rfl, b21⟩
 have s23 := SG.of_below s20 b21
 refine ⟨_, rfl, s23, ?_⟩
 apply F.nx
 refine Fa (.int .i64 (findL ps a)) ?_
 apply F.es
 have x6 := Sk s23 x6 onn
 have x15 := Sk s23 x15 onn
 have c24 := (Sb c19 s23 nkk)
 apply h3
 refine wk fun K4 h4 => ?_
 refine wk fun K5 h5 => ?_
 refine W.region_plain (row := none) [(0, false), (1, false), (2, true), (3, false), (4, false), (5, false), (6, false), (7, false)] kk ?_
 have s25 := SG.self w22 none
 refine Fq (.agg #[.int .i64 m, .slice A n c]) (r_load2 rfl ek kk kk (sgS (blk_cell (j := 0) x6 kk) onn) (sgS (blk_cell (j := 1) x6 kk) onn)) ?_
 refine Fv (.slice A2 n2 c2) ?_
 refine Fc [.agg #[.int .i64 m, .slice A n c], .slice A2 n2 c2] (l4Good_any m A n c ps A2 n2 c2 vs _ (Rk ha (Sb c24 s25 nkk)) (Rk hb (Sb c24 s25 nkk)) (by omega) (by omega)) ?_
 rintro e w27 ⟨rfl, b26⟩
 have s28 := SG.of_below s25 b26
 refine ⟨_, rfl, s28, ?_⟩
 apply F.nx
 rcases Bool.eq_false_or_eq_true (goodV m ps vs) with q29 | q29
 ·rw [q29]
  have hv9 := goodV_of q29
  have hg := hv9.net
  have hgl := hg.lo
  have hgh := hg.hi
  have hp := hg.pipesIn
  have hlen10 := hg.len
  have hu := hv9.uniq
  have hvl := hv9.len
  refine Fq (.bool false) (r_not (b := true) rfl ek rfl) ?_
  refine Fv (.bool false) ?_
  refine Fv (.int .i64 (findL ps a)) ?_
  by_cases q30 : (findL ps a : Int) < (0 : Int)
  ·refine Fq (.bool true) (r_lss (m := findL ps a) (n := 0) rfl ek ek (dt q30)) ?_
   refine Fq (.bool true) (r_pick (b := false) rfl ek ek) ?_
   apply F.es
   have x6 := Sk s28 x6 onn
   have x15 := Sk s28 x15 onn
   have c31 := (Sb c24 s28 nkk)
   apply h5
   refine wp_cond_true ek ?_
   refine wk fun K6 h6 => ?_
   refine Rq 3 ?_
   refine Fv (.slice (some ⟨b11, 0, none⟩) 0 0) ?_
   refine Fa (.slice (some ⟨b11, 0, none⟩) 0 0) ?_
   refine Fa (.bool false) ?_
   apply F.es
   apply h6
   refine wp_ret ?_
   try simp only [Exit.then]
   refine ret2 (v := .slice (some ⟨b11, 0, none⟩) 0 0) (x := .bool false) rfl kk kk ?_
   have ok32 : ValvesAround_v1 m ps vs a = false := by unfold ValvesAround_v1; rw [decide_eq_false (by omega), Bool.and_false]
   have ho33 := own_empty (base := w.heap.size) (size := 1) x15 lo17
   replace ho33 : World.ownsRow _ _ _ _ _ _ (intsV []) := ho33
   exact fin_rd (zs := []) (own_rd ho33) (by unfold ValvesAround_v0; rw [if_neg (by rw [ok32]; simp)]) ok32.symm c31
  refine Fq (.bool false) (r_lss (m := findL ps a) (n := 0) rfl ek ek (df q30)) ?_
  refine Fq (.bool false) (r_pick (b := false) rfl ek ek) ?_
  apply F.es
  have x6 := Sk s28 x6 onn
  have x15 := Sk s28 x15 onn
  have c35 := (Sb c24 s28 nkk)
  apply h5
  refine wp_cond_false ek ?_
  apply wp_skip
  apply h4
  refine wk fun K7 h7 => ?_
  refine W.region_plain (row := none) [(0, false), (1, false), (2, true), (3, false), (4, true), (5, true), (6, false), (7, false), (8, false), (9, false), (10, false)] kk ?_
  have s36 := SG.self w27 none
  refine Fq (.agg #[.int .i64 m, .slice A n c]) (r_load2 rfl ek kk kk (sgS (blk_cell (j := 0) x6 kk) onn) (sgS (blk_cell (j := 1) x6 kk) onn)) ?_
  refine Fv (.slice A2 n2 c2) ?_
  refine W.sn (fun b => .slice (some ⟨b, 0, none⟩) 0 0) #[] 3 s36 rfl kk rfl (fun _ => by kernel_rfl) (fun b37 w38 hb39 k40 x41 s42 => ?_)
  apply F.nx
  have lo43 : w.heap.size ≤ b37 := Nl ((Sb c35 s36 nkk)).size (Nat.le_of_eq hb39)
  refine Fv (.int .i64 (findL ps a)) ?_
  refine W.sn (fun b => .slice (some ⟨b, 0, none⟩) 1 1) #[.int .i64 (findL ps a)] 3 s42 rfl kk rfl (fun _ => by kernel_rfl) (fun b46 w47 hb48 k49 x50 s51 => ?_)
  apply F.nx
  have lo52 : w.heap.size ≤ b46 := Nl ((Sb c35 s42 nkk)).size (Nat.le_of_eq hb48)
  have x41 := (k49.block _ (blk_lt x41)).trans x41
  have ho56 := own_empty (base := w.heap.size) (size := 1) x41 lo43
  replace ho56 : World.ownsRow _ _ _ _ _ _ (intsV []) := ho56
  have rd61 := own_rd ho56
  have hl62 := rd_ints_len rd61
  have ho63 := own_blk (base := w.heap.size) (size := 1) (n := 1) x50 lo52 rfl (by omega)
  replace ho63 : World.ownsRow _ _ _ _ _ _ (intsV [findL ps a]) := ho63
  have rd67 := own_rd ho63
  have hl68 := rd_ints_len rd67
  refine Fc [.agg #[.int .i64 m, .slice A n c], .slice A2 n2 c2, .bool false, .slice (some ⟨b37, 0, none⟩) 0 0, .slice (some ⟨b46, 0, none⟩) 1 1] (l4Spread_false m A n c ps A2 n2 c2 vs (9 + (findL ps a)) (some ⟨b37, 0, none⟩) 0 0 ([]) (some ⟨b46, 0, none⟩) 1 1 ([findL ps a]) _ (Rk ha (Sb c35 s51 nkk)) (Rk hb (Sb c35 s51 nkk)) (by omega) (by omega) hp (by omega) (by omega) rd61 (own_fm ho56) rd67 (own_fm ho63) (FndQ.startP _ (by omega))) ?_
  rintro e w84 ⟨A69, n70, c71, A72, n73, c74, rfl, rd75, fm76, rd77, fm78, b83⟩
  have s85 := SG.of_below s51 b83
  refine ⟨_, rfl, s85, ?_⟩
  apply F.nx
  have hl81 := rd_ints_len rd75
  have hl82 := rd_ints_len rd77
  have := nodesL_len (linked ps (openQ vs false)) m.toNat (9 + (findL ps a)) true
  have := idxL_len (linked ps (openQ vs false)) ps.length (9 + (findL ps a)) true
  refine Fv (.tuple #[.slice A69 n70 c71, .slice A72 n73 c74]) ?_
  refine Fq (.slice A69 n70 c71) (r_extract (vs := #[.slice A69 n70 c71, .slice A72 n73 c74]) rfl ek kk) ?_
  refine Fq (.slice A72 n73 c74) (r_extract (vs := #[.slice A69 n70 c71, .slice A72 n73 c74]) rfl ek kk) ?_
  refine Fa (.slice A69 n70 c71) ?_
  refine Fa (.slice A72 n73 c74) ?_
  apply F.es
  have x6 := Sk s85 x6 onn
  have x15 := Sk s85 x15 onn
  have c88 := (Sb c35 s85 nkk)
  apply h7
  refine wk fun K8 h8 => ?_
  refine W.region_plain (row := none) [(0, false), (1, false), (2, false), (3, false), (4, true), (5, false)] kk ?_
  have s89 := SG.self w84 none
  refine Fq (.agg #[.int .i64 m, .slice A n c]) (r_load2 rfl ek kk kk (sgS (blk_cell (j := 0) x6 kk) onn) (sgS (blk_cell (j := 1) x6 kk) onn)) ?_
  refine Fv (.slice A2 n2 c2) ?_
  refine Fv (.slice A69 n70 c71) ?_
  refine Fv (.slice A72 n73 c74) ?_
  refine Fc [.agg #[.int .i64 m, .slice A n c], .slice A2 n2 c2, .slice A69 n70 c71, .slice A72 n73 c74] (l4Around_any m A n c ps A2 n2 c2 vs a A69 n70 c71 A72 n73 c74 _ (Rk ha (Sb c88 s89 nkk)) (Rk hb (Sb c88 s89 nkk)) (by omega) (by omega) hv9 (by omega) (Rk rd75 (SG.below s89)) (Rk rd77 (SG.below s89))) ?_
  rintro e w99 ⟨A90, n91, c92, rfl, ho93, b98⟩
  have s100 := SG.of_below s89 b98
  refine ⟨_, rfl, s100, ?_⟩
  apply F.nx
  have rd94 := own_rd ho93
  have hl95 := rd_ints_len rd94
  have sp102 := sp_freshB (g := b11) ho93 (Nat.lt_of_lt_of_le (blk_lt x15) (World.grownBy.size s89))
  have := aroundI_len ps vs (9 + findL ps a) vs.length
  refine Fa (.slice A90 n91 c92) ?_
  apply F.es
  have x6 := Sk s100 x6 onn
  have x15 := Sk s100 x15 onn
  have c103 := (Sb c88 s100 nkk)
  apply h8
  refine wk fun K9 h9 => ?_
  refine wk fun K10 h10 => ?_
  refine Rq 1 ?_
  refine Fa (.int .i64 0) ?_
  apply F.es
  apply h10
  refine wp_block ?_
  have ho108 := own_empty (base := w.heap.size) (size := 1) x15 lo17
  replace ho108 : World.ownsRow _ _ _ _ _ _ (intsV []) := ho108
  have sp109 := sp_own (n' := 0) (c := 0) sp102
  have nb110 : Nb b2 (.slice (some ⟨b11, 0, none⟩) 0 0) := nb_new ne18
  refine loopK (fun am0 aa0 wl0 => ∃ (i : Nat) (A0_8 : Option Addr) (n0_8 : Nat) (c0_8 : Nat) , Kn aa0 [(0, .agg #[.int .i64 m, .slice A n c]), (1, .slice A2 n2 c2), (2, .int .i64 a), (3, .pointer (some ⟨b2, 0, none⟩)), (6, .slice none 0 0), (7, .bool false), (8, .slice A0_8 n0_8 c0_8), (9, .int .i64 (findL ps a)), (10, .slice A69 n70 c71), (11, .slice A72 n73 c74), (12, .slice A90 n91 c92), (13, .int .i64 (i : Int)), (25, .bool false)] 59 ∧ (am0 = n91 - i) ∧ (i ≤ n91) ∧ (n0_8 ≤ i) ∧ (wl0.heap[b2]? = some (.cells #[.int .i64 m, .slice A n c] 26 (0, 0))) ∧ (wl0.ownsRow w.heap.size 3 1 (.slice A0_8 n0_8 c0_8) n0_8 (intsV (idsV vs ((aroundI ps vs (9 + findL ps a) vs.length).take i)))) ∧ (Nb b2 (.slice A0_8 n0_8 c0_8)) ∧ (Rd wl0 1 A90 n91 (intsV (aroundI ps vs (9 + findL ps a) vs.length))) ∧ (Sp A90 n91 (Value.ownBlock (.slice A0_8 n0_8 c0_8))) ∧ (Below w.heap.size w wl0)) (n91 - 0) ?_ ?_
  ·exact ⟨0, (some ⟨b11, 0, none⟩), 0, 0, Kn.of, rfl, (Nat.zero_le _), (Nat.zero_le _), x6, ho108, nb110, rd94, sp109, c103⟩
  rintro am0 aa0 wl0 K11 h11 ⟨i, A0_8, n0_8, c0_8, ⟨U0, rfl⟩, rfl, hi, hb8, x6, ho0_8, nb0_8_b2, rd0_12, sp0_12_8, c111⟩
  refine wk fun K12 h12 => ?_
  refine wk fun K13 h13 => ?_
  refine Rq 4 ?_
  refine Fv (.int .i64 (i : Int)) ?_
  refine Fv (.slice A90 n91 c92) ?_
  refine Fq (.int .i64 (n91 : Int)) (r_len (A := A90) (n := n91) (c := c92) rfl ek kk) ?_
  by_cases q112 : ((i : Int) : Int) < ((n91 : Int) : Int)
  ·refine Fq (.bool true) (r_lss (m := (i : Int)) (n := (n91 : Int)) rfl ek ek (dt q112)) ?_
   apply F.es
   apply h13
   refine wp_cond_true ek ?_
   apply wp_skip
   apply h12
   refine wk fun K14 h14 => ?_
   refine wp_block ?_
   refine W.region_plain (row := (Value.ownBlock (.slice A0_8 n0_8 c0_8))) [(0, false), (1, false), (2, false), (3, false), (4, false), (5, false), (6, false), (7, false), (8, false), (9, true), (10, true), (11, false)] kk ?_
   have s113 := SG.self wl0 (Value.ownBlock (.slice A0_8 n0_8 c0_8))
   refine Fv (.slice A0_8 n0_8 c0_8) ?_
   refine Fv (.slice A2 n2 c2) ?_
   refine Fv (.slice A90 n91 c92) ?_
   refine Fv (.int .i64 (i : Int)) ?_
   obtain ⟨x114, hx115⟩ := get_of (zs := (aroundI ps vs (9 + findL ps a) vs.length)) (k := i) (by have := hl95; omega)
   obtain ⟨b116, o117, hA118, hb119, hc120⟩ := Rd.elInt rd0_12 hx115
   refine Fq (.pointer (some ⟨b116, o117 + i, none⟩)) (r_idx1 (n := n91) (c := c92) (k := i) rfl ek hA118 kk kk (by have := hl95; omega)) ?_
   refine Fl (.int .i64 x114) (sgS hc120 (sp0_12_8 (by omega) _ _ hA118)) ?_
   have hy9 := aroundI_in (List.mem_of_getElem? hx115)
   obtain ⟨x121, hx122⟩ := get_of (zs := vs) (k := x114.toNat) (by have := hl2; omega)
   obtain ⟨b123, o124, hA125, hb126, hc127, hc128, hc129, hc130⟩ := Rd.elValve hb hx122
   refine Fq (.pointer (some ⟨b123, o124 + x114.toNat * 4, none⟩)) (r_idx (n := n2) (c := c2) (k := x114.toNat) rfl ek hA125 (evk (z := x114) kk (by omega)) kk (by have := hl2; omega)) ?_
   refine Fq (.pointer (some ⟨b123, o124 + x114.toNat * 4, none⟩)) (r_field0 rfl ek kk) ?_
   refine Fl (.int .i64 x121.id) (sgS (later c111 hc127) (nb_lo ho0_8 hb126)) ?_
   refine W.sn (fun b => .slice (some ⟨b, 0, none⟩) 1 1) #[.int .i64 x121.id] 3 s113 rfl kk rfl (fun _ => by kernel_rfl) (fun b131 w132 hb133 k134 x135 s136 => ?_)
   apply F.nx
   have lo137 : w.heap.size ≤ b131 := Nl ((Sb c111 s113 (fun kq e => (World.ownsRow.lt ho0_8 kq e).1))).size (Nat.le_of_eq hb133)
   have ho141 := own_kept ho0_8 k134
   refine W.sap (e := 3) (size := 1) (base := w.heap.size) (m := 1) (v := .slice A0_8 n0_8 c0_8) (c := 1) s136 rfl rfl rfl rfl kk kk kk ho141 x135 kk kk (by omega) (by omega) (by have := ((Sb c111 s136 (fun kq e => (World.ownsRow.lt ho0_8 kq e).1))).size; omega) (.inl rfl) (fun g142 cap143 w144 ho145 hg146 hat147 hlt148 s149 => ?_)
   apply F.nx
   have nb150 : Nb b2 (.slice (some ⟨g142, 0, none⟩) (n0_8 + 1) cap143) := nb_app nb0_8_b2 (Nat.lt_of_lt_of_le (blk_lt x6) (s136).size) hat147
   have ho145 := own_snoc ho145
   have sp152 := sp_app (v' := .slice (some ⟨g142, 0, none⟩) (n0_8 + 1) cap143) sp0_12_8 rd0_12 ((s136).size) (hat3 (v := .slice A0_8 n0_8 c0_8) hat147)
   refine Fa (.slice (some ⟨g142, 0, none⟩) (n0_8 + 1) cap143) ?_
   apply F.es
   have x6 := Sk s149 x6 nb0_8_b2
   have c153 := (Sb c111 s149 (fun kq e => (World.ownsRow.lt ho0_8 kq e).1))
   have rd154 := rd_sep rd0_12 s149 sp0_12_8
   apply h14
   refine Rq 3 ?_
   refine Fv (.int .i64 (i : Int)) ?_
   refine Fq (.int .i64 ((i + 1 : Nat) : Int)) (r_add (m := (i : Int)) (n := 1) (z := ((i + 1 : Nat) : Int)) rfl ek ek (by omega) (by omega)) ?_
   refine Fa (.int .i64 ((i + 1 : Nat) : Int)) ?_
   apply F.es
   exact h11 _ _ _ (by omega : (n91 - (i + 1)) < _) ⟨i + 1, (some ⟨g142, 0, none⟩), (n0_8 + 1), cap143, Kn.of, rfl, (by omega), (by omega), x6, (by rw [idsV_take hx115 hx122]; exact ho145), nb150, rd154, sp152, c153⟩
  refine Fq (.bool false) (r_lss (m := (i : Int)) (n := (n91 : Int)) rfl ek ek (df q112)) ?_
  apply F.es
  apply h13
  refine wp_cond_false ek ?_
  refine wp_exit ?_
  apply h9
  refine wk fun K15 h15 => ?_
  refine Rq 3 ?_
  refine Fv (.slice A0_8 n0_8 c0_8) ?_
  refine Fa (.slice A0_8 n0_8 c0_8) ?_
  refine Fa (.bool true) ?_
  apply F.es
  apply h15
  refine wp_ret ?_
  try simp only [Exit.then]
  refine ret2 (v := .slice A0_8 n0_8 c0_8) (x := .bool true) rfl kk kk ?_
  have ok155 : ValvesAround_v1 m ps vs a = true := by unfold ValvesAround_v1; rw [q29, decide_eq_true (by omega)]; try rfl
  exact fin_rd  (own_rd ho0_8) (by unfold ValvesAround_v0; rw [if_pos ok155, List.take_of_length_le (by omega)]) ok155.symm c111
 rw [q29]
 refine Fq (.bool true) (r_not (b := false) rfl ek rfl) ?_
 refine Fv (.bool true) ?_
 refine Fs s28 ?_
 refine Fs s28 ?_
 refine Fq (.bool true) (r_pick (b := true) rfl ek ek) ?_
 apply F.es
 have x15 := Sk s28 x15 onn
 have c156 := (Sb c24 s28 nkk)
 apply h5
 refine wp_cond_true ek ?_
 refine wk fun K16 h16 => ?_
 refine Rq 3 ?_
 refine Fv (.slice (some ⟨b11, 0, none⟩) 0 0) ?_
 refine Fa (.slice (some ⟨b11, 0, none⟩) 0 0) ?_
 refine Fa (.bool false) ?_
 apply F.es
 apply h16
 refine wp_ret ?_
 try simp only [Exit.then]
 refine ret2 (v := .slice (some ⟨b11, 0, none⟩) 0 0) (x := .bool false) rfl kk kk ?_
 have ok157 : ValvesAround_v1 m ps vs a = false := by unfold ValvesAround_v1; rw [q29]; try rfl
 have ho158 := own_empty (base := w.heap.size) (size := 1) x15 lo17
 replace ho158 : World.ownsRow _ _ _ _ _ _ (intsV []) := ho158
 exact fin_rd (zs := []) (own_rd ho158) (by unfold ValvesAround_v0; rw [if_neg (by rw [ok157]; simp)]) ok157.symm c156
end Go.Proofs.Ytdbgfejeleafgaa
namespace Go.Proofs.Ytdbgfejeleafgaa
open Go.RowKit
set_option linter.unusedVariables false
set_option linter.unusedSimpArgs false
def segIds (vs : List Vv) (xs : List Int) : List Int := idsV vs (xs.filter (fun i => match vs[i.toNat]? with | some v => !v.shut | none => false))
theorem segIds_yes {vs : List Vv} {xs : List Int} {i : Nat} {y : Int} {v : Vv} (hy : xs[i]? = some y) (hv : vs[y.toNat]? = some v) (h : v.shut = false) : segIds vs (xs.take (i + 1)) = segIds vs (xs.take i) ++ [v.id] := by
  unfold segIds idsV; rw [List.take_add_one, hy, List.filter_append, List.map_append]; simp [hv, h]
theorem segIds_no {vs : List Vv} {xs : List Int} {i : Nat} {y : Int} {v : Vv} (hy : xs[i]? = some y) (hv : vs[y.toNat]? = some v) (h : v.shut = true) : segIds vs (xs.take (i + 1)) = segIds vs (xs.take i) := by
  unfold segIds idsV; rw [List.take_add_one, hy, List.filter_append, List.map_append]; simp [hv, h]
theorem segIds_len (vs : List Vv) (xs : List Int) : (segIds vs xs).length ≤ xs.length := by
  unfold segIds; rw [idsV_len]; exact List.length_filter_le _ _
theorem idsV_at {vs : List Vv} {xs : List Int} {i : Nat} {y : Int} {v : Vv} (hy : xs[i]? = some y) (hv : vs[y.toNat]? = some v) : (idsV vs xs)[i]? = some v.id := by simp [idsV, hy, hv]
noncomputable def segPlan (ps : List Pp) (vs : List Vv) (id : Int) : List Int := segIds vs (aroundI ps vs (9 + findL ps id) vs.length)
noncomputable def SegmentPlan_v1 (m : Int) (ps : List Pp) (vs : List Vv) (s id : Int) : Bool := canB m ps vs s id && cutB ps vs s id (segPlan ps vs id)
noncomputable def SegmentPlan_v0 (m : Int) (ps : List Pp) (vs : List Vv) (s id : Int) : List Int := if SegmentPlan_v1 m ps vs s id = true then segPlan ps vs id else []
theorem SegmentPlan_len (m : Int) (ps : List Pp) (vs : List Vv) (s id : Int) : (SegmentPlan_v0 m ps vs s id).length ≤ 1048576 := by
  unfold SegmentPlan_v0
  split
  · rename_i h
    have hc : canB m ps vs s id = true := by unfold SegmentPlan_v1 at h; rw [Bool.and_eq_true] at h; exact h.1
    have := (canB_of hc).1.len
    have := segIds_len vs (aroundI ps vs (9 + findL ps id) vs.length)
    have := aroundI_len ps vs (9 + findL ps id) vs.length
    unfold segPlan
    omega
  · simp
set_option maxRecDepth 100000 in
set_option maxHeartbeats 8000000 in
theorem SegmentPlan_impl (m : Int) (A : Option Addr) (n c : Nat) (ps : List Pp) (A2 : Option Addr) (n2 c2 : Nat) (vs : List Vv) (s id : Int) (w : World) (ha : Rd w 4 A n (pipesV ps)) (hb : Rd w 4 A2 n2 (valvesV vs)) (hn : n ≤ 1048576) (hn2 : n2 ≤ 1048576) (hfm : Fm A n c) (hfm2 : Fm A2 n2 c2) :
    Calls Try.prog 50 #[.agg #[.int .i64 m, .slice A n c], .slice A2 n2 c2, .int .i64 s, .int .i64 id] w fun e w' => ∃ A' d, e = .returned (.tuple #[.slice A' (SegmentPlan_v0 m ps vs s id).length d, .bool (SegmentPlan_v1 m ps vs s id)]) ∧ w'.ownsRow w.heap.size 3 1 (.slice A' (SegmentPlan_v0 m ps vs s id).length d) (SegmentPlan_v0 m ps vs s id).length (intsV (SegmentPlan_v0 m ps vs s id)) ∧ Below w.heap.size w w' := by
 have hl := rd_pipes_len ha
 have hl2 := rd_valves_len hb
 have hfl := findL_lt ps id
 go_enter Try.func50, Try.ntmps50
 refine F.begin 52 [(0, .agg #[.int .i64 m, .slice A n c]), (1, .slice A2 n2 c2), (2, .int .i64 s), (3, .int .i64 id)] (fun U0 => ?_)
 refine wk fun K1 h1 => ?_
 refine W.region_plain (row := none) [(0, true), (1, false), (2, false)] kk ?_
 have s1 := SG.self w none
 refine W.sn (fun b => .pointer (some ⟨b, 0, none⟩)) #[.int .i64 m, .slice A n c] 26 s1 rfl kk rfl (fun _ => by kernel_rfl) (fun b2 w3 hb4 k5 x6 s7 => ?_)
 apply F.nx
 have lo8 : w.heap.size ≤ b2 := Nl ((Sb (Below.refl _ _) s1 nkk)).size (Nat.le_of_eq hb4)
 refine Fa (.slice none 0 0) ?_
 refine Fa (.bool false) ?_
 apply F.es
 have c9 := (Sb (Below.refl _ _) s7 nkk)
 apply h1
 refine wk fun K2 h2 => ?_
 refine wk fun K3 h3 => ?_
 refine W.region_plain (row := none) [(0, false), (1, false), (2, false), (3, false), (4, true), (5, false)] kk ?_
 have s10 := SG.self w3 none
 refine Fq (.agg #[.int .i64 m, .slice A n c]) (r_load2 rfl ek kk kk (sgS (blk_cell (j := 0) x6 kk) onn) (sgS (blk_cell (j := 1) x6 kk) onn)) ?_
 refine Fv (.slice A2 n2 c2) ?_
 refine Fv (.int .i64 s) ?_
 refine Fv (.int .i64 id) ?_
 refine Fc [.agg #[.int .i64 m, .slice A n c], .slice A2 n2 c2, .int .i64 s, .int .i64 id] (canBurst_any m A n c ps A2 n2 c2 vs s id _ (Rk ha (Sb c9 s10 nkk)) (Rk hb (Sb c9 s10 nkk)) (by omega) (by omega) hfm2) ?_
 rintro e w12 ⟨rfl, b11⟩
 have s13 := SG.of_below s10 b11
 refine ⟨_, rfl, s13, ?_⟩
 apply F.nx
 rcases Bool.eq_false_or_eq_true (canB m ps vs s id) with q14 | q14
 ·rw [q14]
  obtain ⟨hv9, hs, hfa⟩ := canB_of q14
  have hg := hv9.net
  have hgl := hg.lo
  have hgh := hg.hi
  have hp := hg.pipesIn
  have hlen10 := hg.len
  have hu := hv9.uniq
  have hvl := hv9.len
  refine Fq (.bool false) (r_not (b := true) rfl ek rfl) ?_
  apply F.es
  have x6 := Sk s13 x6 onn
  have c15 := (Sb c9 s13 nkk)
  apply h3
  refine wp_cond_false ek ?_
  apply wp_skip
  apply h2
  refine wk fun K4 h4 => ?_
  refine W.region_plain (row := none) [(0, true), (1, false)] kk ?_
  have s16 := SG.self w12 none
  refine W.sn (fun b => .slice (some ⟨b, 0, none⟩) 0 0) #[] 3 s16 rfl kk rfl (fun _ => by kernel_rfl) (fun b17 w18 hb19 k20 x21 s22 => ?_)
  apply F.nx
  have lo23 : w.heap.size ≤ b17 := Nl ((Sb c15 s16 nkk)).size (Nat.le_of_eq hb19)
  have ne24 : b2 ≠ b17 := Nat.ne_of_lt (Nat.lt_of_lt_of_eq (Nat.lt_of_lt_of_le (blk_lt x6) (s16).size) hb19)
  refine Fa (.slice (some ⟨b17, 0, none⟩) 0 0) ?_
  apply F.es
  have x6 := Sk s22 x6 onn
  have c25 := (Sb c15 s22 nkk)
  apply h4
  refine wk fun K5 h5 => ?_
  refine wk fun K6 h6 => ?_
  refine W.region_plain (row := none) [(0, false), (1, false), (2, false), (3, true), (4, false), (5, false)] kk ?_
  have s26 := SG.self w18 none
  refine Fq (.agg #[.int .i64 m, .slice A n c]) (r_load2 rfl ek kk kk (sgS (blk_cell (j := 0) x6 kk) onn) (sgS (blk_cell (j := 1) x6 kk) onn)) ?_
  refine Fv (.slice A2 n2 c2) ?_
  refine Fv (.int .i64 id) ?_
  refine Fc [.agg #[.int .i64 m, .slice A n c], .slice A2 n2 c2, .int .i64 id] (valvesAround_any m A n c ps A2 n2 c2 vs id _ (Rk ha (Sb c25 s26 nkk)) (Rk hb (Sb c25 s26 nkk)) (by omega) (by omega) hv9 (by omega)) ?_
  rintro e w36 ⟨A27, n28, c29, rfl, ho30, b35⟩
  have s37 := SG.of_below s26 b35
  refine ⟨_, rfl, s37, ?_⟩
  apply F.nx
  have rd31 := own_rd ho30
  have hl32 := rd_ints_len rd31
  have sp39 := sp_freshB (g := b17) ho30 (Nat.lt_of_lt_of_le (blk_lt x21) (World.grownBy.size s26))
  have := aroundI_len ps vs (9 + findL ps id) vs.length
  refine Fq (.int .i64 (n28 : Int)) (r_len (A := A27) (n := n28) (c := c29) rfl ek kk) ?_
  refine Fv (.int .i64 0) ?_
  apply F.es
  have x6 := Sk s37 x6 onn
  have x21 := Sk s37 x21 onn
  have c40 := (Sb c25 s37 nkk)
  apply h6
  refine wp_block ?_
  have ho41 := own_empty (base := w.heap.size) (size := 1) x21 lo23
  replace ho41 : World.ownsRow _ _ _ _ _ _ (intsV []) := ho41
  have sp42 := sp_own (n' := 0) (c := 0) sp39
  have nb43 : Nb b2 (.slice (some ⟨b17, 0, none⟩) 0 0) := nb_new ne24
  refine loopK (fun am0 aa0 wl0 => ∃ (i : Nat) (A0_10 : Option Addr) (n0_10 : Nat) (c0_10 : Nat) , Kn aa0 [(0, .agg #[.int .i64 m, .slice A n c]), (1, .slice A2 n2 c2), (2, .int .i64 s), (3, .int .i64 id), (4, .pointer (some ⟨b2, 0, none⟩)), (8, .slice none 0 0), (9, .bool false), (10, .slice A0_10 n0_10 c0_10), (18, .bool false), (23, .slice A27 n28 c29), (24, .int .i64 (n28 : Int)), (25, .int .i64 (i : Int))] 52 ∧ (am0 = n28 - i) ∧ (i ≤ n28) ∧ (n0_10 ≤ i) ∧ (wl0.heap[b2]? = some (.cells #[.int .i64 m, .slice A n c] 26 (0, 0))) ∧ (wl0.ownsRow w.heap.size 3 1 (.slice A0_10 n0_10 c0_10) n0_10 (intsV (segIds vs ((aroundI ps vs (9 + findL ps id) vs.length).take i)))) ∧ (Nb b2 (.slice A0_10 n0_10 c0_10)) ∧ (Rd wl0 1 A27 n28 (intsV (aroundI ps vs (9 + findL ps id) vs.length))) ∧ (Sp A27 n28 (Value.ownBlock (.slice A0_10 n0_10 c0_10))) ∧ (Below w.heap.size w wl0)) (n28 - 0) ?_ ?_
  ·exact ⟨0, (some ⟨b17, 0, none⟩), 0, 0, Kn.of, rfl, (Nat.zero_le _), (Nat.zero_le _), x6, ho41, nb43, rd31, sp42, c40⟩
  rintro am0 aa0 wl0 K7 h7 ⟨i, A0_10, n0_10, c0_10, ⟨U0, rfl⟩, rfl, hi, hb10, x6, ho0_10, nb0_10_b2, rd0_23, sp0_23_10, c44⟩
  refine wk fun K8 h8 => ?_
  refine Rq 1 ?_
  by_cases q45 : ((i : Int) : Int) < ((n28 : Int) : Int)
  ·refine Fq (.bool true) (r_lss (m := (i : Int)) (n := (n28 : Int)) rfl ek ek (dt q45)) ?_
   apply F.es
   apply h8
   refine wk fun K9 h9 => ?_
   refine wp_cond_true ek ?_
   apply wp_skip
   apply h9
   refine wk fun K10 h10 => ?_
   refine wp_block ?_
   refine wk fun K11 h11 => ?_
   refine Rq 3 ?_
   obtain ⟨x46, hx47⟩ := get_of (zs := (aroundI ps vs (9 + findL ps id) vs.length)) (k := i) (by have := hl32; omega)
   obtain ⟨b48, o49, hA50, hb51, hc52⟩ := Rd.elInt rd0_23 hx47
   refine Fq (.pointer (some ⟨b48, o49 + i, none⟩)) (r_idx1 (n := n28) (c := c29) (k := i) rfl ek hA50 kk kk (by have := hl32; omega)) ?_
   refine Fl (.int .i64 x46) (eqS hc52) ?_
   refine Fa (.int .i64 x46) ?_
   apply F.es
   apply h11
   refine wk fun K12 h12 => ?_
   refine Rq 6 ?_
   refine Fv (.slice A2 n2 c2) ?_
   refine Fv (.int .i64 x46) ?_
   have hy9 := aroundI_in (List.mem_of_getElem? hx47)
   obtain ⟨x53, hx54⟩ := get_of (zs := vs) (k := x46.toNat) (by have := hl2; omega)
   obtain ⟨b55, o56, hA57, hb58, hc59, hc60, hc61, hc62⟩ := Rd.elValve hb hx54
   refine Fq (.pointer (some ⟨b55, o56 + x46.toNat * 4, none⟩)) (r_idx (n := n2) (c := c2) (k := x46.toNat) rfl ek hA57 (evk (z := x46) kk (by omega)) kk (by have := hl2; omega)) ?_
   refine Fq (.pointer (some ⟨b55, o56 + x46.toNat * 4 + 3, none⟩)) (r_field (k := 3) rfl ek kk) ?_
   refine Fl (.bool x53.shut) (eqS (later c44 hc62)) ?_
   refine Fq (.bool (!x53.shut)) (r_not (b := x53.shut) rfl ek rfl) ?_
   apply F.es
   apply h12
   rcases Bool.eq_false_or_eq_true (!x53.shut) with q63 | q63
   ·rw [q63]
    refine wp_cond_true ek ?_
    refine W.region_plain (row := (Value.ownBlock (.slice A0_10 n0_10 c0_10))) [(0, false), (1, false), (2, false), (3, false), (4, false), (5, false), (6, true), (7, true), (8, false)] kk ?_
    have s64 := SG.self wl0 (Value.ownBlock (.slice A0_10 n0_10 c0_10))
    refine Fv (.slice A0_10 n0_10 c0_10) ?_
    refine Fv (.slice A2 n2 c2) ?_
    refine Fv (.int .i64 x46) ?_
    refine Fq (.pointer (some ⟨b55, o56 + x46.toNat * 4, none⟩)) (r_idx (n := n2) (c := c2) (k := x46.toNat) rfl ek hA57 (evk (z := x46) kk (by omega)) kk (by have := hl2; omega)) ?_
    refine Fq (.pointer (some ⟨b55, o56 + x46.toNat * 4, none⟩)) (r_field0 rfl ek kk) ?_
    refine Fl (.int .i64 x53.id) (sgS (later c44 hc59) (nb_lo ho0_10 hb58)) ?_
    refine W.sn (fun b => .slice (some ⟨b, 0, none⟩) 1 1) #[.int .i64 x53.id] 3 s64 rfl kk rfl (fun _ => by kernel_rfl) (fun b65 w66 hb67 k68 x69 s70 => ?_)
    apply F.nx
    have lo71 : w.heap.size ≤ b65 := Nl ((Sb c44 s64 (fun kq e => (World.ownsRow.lt ho0_10 kq e).1))).size (Nat.le_of_eq hb67)
    have ho75 := own_kept ho0_10 k68
    refine W.sap (e := 3) (size := 1) (base := w.heap.size) (m := 1) (v := .slice A0_10 n0_10 c0_10) (c := 1) s70 rfl rfl rfl rfl kk kk kk ho75 x69 kk kk (by omega) (by omega) (by have := ((Sb c44 s70 (fun kq e => (World.ownsRow.lt ho0_10 kq e).1))).size; omega) (.inl rfl) (fun g76 cap77 w78 ho79 hg80 hat81 hlt82 s83 => ?_)
    apply F.nx
    have nb84 : Nb b2 (.slice (some ⟨g76, 0, none⟩) (n0_10 + 1) cap77) := nb_app nb0_10_b2 (Nat.lt_of_lt_of_le (blk_lt x6) (s70).size) hat81
    have ho79 := own_snoc ho79
    have sp86 := sp_app (v' := .slice (some ⟨g76, 0, none⟩) (n0_10 + 1) cap77) sp0_23_10 rd0_23 ((s70).size) (hat3 (v := .slice A0_10 n0_10 c0_10) hat81)
    refine Fa (.slice (some ⟨g76, 0, none⟩) (n0_10 + 1) cap77) ?_
    apply F.es
    have x6 := Sk s83 x6 nb0_10_b2
    have c87 := (Sb c44 s83 (fun kq e => (World.ownsRow.lt ho0_10 kq e).1))
    have rd88 := rd_sep rd0_23 s83 sp0_23_10
    apply h10
    refine Rq 2 ?_
    refine Fq (.int .i64 ((i + 1 : Nat) : Int)) (r_add (m := (i : Int)) (n := 1) (z := ((i + 1 : Nat) : Int)) rfl ek ek (by omega) (by omega)) ?_
    refine Fv (.int .i64 ((i + 1 : Nat) : Int)) ?_
    apply F.es
    exact h7 _ _ _ (by omega : (n28 - (i + 1)) < _) ⟨i + 1, (some ⟨g76, 0, none⟩), (n0_10 + 1), cap77, Kn.of, rfl, (by omega), (by omega), x6, (by rw [segIds_yes hx47 hx54 (by simpa using q63)]; exact ho79), nb84, rd88, sp86, c87⟩
   rw [q63]
   refine wp_cond_false ek ?_
   apply wp_skip
   apply h10
   refine Rq 2 ?_
   refine Fq (.int .i64 ((i + 1 : Nat) : Int)) (r_add (m := (i : Int)) (n := 1) (z := ((i + 1 : Nat) : Int)) rfl ek ek (by omega) (by omega)) ?_
   refine Fv (.int .i64 ((i + 1 : Nat) : Int)) ?_
   apply F.es
   exact h7 _ _ _ (by omega : (n28 - (i + 1)) < _) ⟨i + 1, A0_10, n0_10, c0_10, Kn.of, rfl, (by omega), (by omega), x6, (by rw [segIds_no hx47 hx54 (by simpa using q63)]; exact ho0_10), nb0_10_b2, rd0_23, sp0_23_10, c44⟩
  refine Fq (.bool false) (r_lss (m := (i : Int)) (n := (n28 : Int)) rfl ek ek (df q45)) ?_
  apply F.es
  apply h8
  refine wk fun K13 h13 => ?_
  refine wp_cond_false ek ?_
  refine wp_exit ?_
  apply h5
  refine wk fun K14 h14 => ?_
  refine wk fun K15 h15 => ?_
  refine W.region_plain (row := none) [(0, false), (1, false), (2, false), (3, false), (4, false), (5, true), (6, false)] kk ?_
  have s89 := SG.self wl0 none
  refine Fq (.agg #[.int .i64 m, .slice A n c]) (r_load2 rfl ek kk kk (sgS (blk_cell (j := 0) x6 kk) onn) (sgS (blk_cell (j := 1) x6 kk) onn)) ?_
  refine Fv (.slice A2 n2 c2) ?_
  refine Fv (.int .i64 s) ?_
  refine Fv (.int .i64 id) ?_
  refine Fv (.slice A0_10 n0_10 c0_10) ?_
  refine Fc [.agg #[.int .i64 m, .slice A n c], .slice A2 n2 c2, .int .i64 s, .int .i64 id, .slice A0_10 n0_10 c0_10] (isolates_any m A n c ps A2 n2 c2 vs s id A0_10 n0_10 c0_10 (segIds vs ((aroundI ps vs (9 + findL ps id) vs.length).take i)) _ (Rk ha (Sb c44 s89 nkk)) (Rk hb (Sb c44 s89 nkk)) (by omega) (by omega) hfm2 hv9 hs hfa (own_rd ho0_10) (by omega)) ?_
  rintro e w91 ⟨rfl, b90⟩
  have s92 := SG.of_below s89 b90
  refine ⟨_, rfl, s92, ?_⟩
  apply F.nx
  have ho93 := own_kept ho0_10 b90
  rcases Bool.eq_false_or_eq_true (cutB ps vs s id (segIds vs ((aroundI ps vs (9 + findL ps id) vs.length).take i))) with q94 | q94
  ·rw [q94]
   refine Fq (.bool false) (r_not (b := true) rfl ek rfl) ?_
   apply F.es
   have c95 := (Sb c44 s92 nkk)
   apply h15
   refine wp_cond_false ek ?_
   apply wp_skip
   apply h14
   refine wk fun K16 h16 => ?_
   refine Rq 3 ?_
   refine Fv (.slice A0_10 n0_10 c0_10) ?_
   refine Fa (.slice A0_10 n0_10 c0_10) ?_
   refine Fa (.bool true) ?_
   apply F.es
   apply h16
   refine wp_ret ?_
   try simp only [Exit.then]
   refine ret2 (v := .slice A0_10 n0_10 c0_10) (x := .bool true) rfl kk kk ?_
   have e8 : SegmentPlan_v1 m ps vs s id = true := by unfold SegmentPlan_v1 segPlan; rw [q14, show segIds vs (aroundI ps vs (9 + findL ps id) vs.length) = segIds vs ((aroundI ps vs (9 + findL ps id) vs.length).take i) from by rw [List.take_of_length_le (by omega)], q94]; try rfl
   exact fin_ints  ho93 (by unfold SegmentPlan_v0 segPlan; rw [if_pos e8, List.take_of_length_le (by omega)]) e8.symm c95
  rw [q94]
  refine Fq (.bool true) (r_not (b := false) rfl ek rfl) ?_
  apply F.es
  have c97 := (Sb c44 s92 nkk)
  apply h15
  refine wp_cond_true ek ?_
  refine wk fun K17 h17 => ?_
  refine Rq 2 ?_
  refine Fa (.slice none 0 0) ?_
  refine Fa (.bool false) ?_
  apply F.es
  apply h17
  refine wp_ret ?_
  try simp only [Exit.then]
  refine ret2 (v := .slice none 0 0) (x := .bool false) rfl kk kk ?_
  have e8 : SegmentPlan_v1 m ps vs s id = false := by unfold SegmentPlan_v1 segPlan; rw [show segIds vs (aroundI ps vs (9 + findL ps id) vs.length) = segIds vs ((aroundI ps vs (9 + findL ps id) vs.length).take i) from by rw [List.take_of_length_le (by omega)], q94, Bool.and_false]
  exact fin_ints (zs := []) (World.ownsRow_nil _ _ _ _) (by unfold SegmentPlan_v0; rw [if_neg (by rw [e8]; simp)]) e8.symm c97
 rw [q14]
 refine Fq (.bool true) (r_not (b := false) rfl ek rfl) ?_
 apply F.es
 have c99 := (Sb c9 s13 nkk)
 apply h3
 refine wp_cond_true ek ?_
 refine wk fun K18 h18 => ?_
 refine Rq 2 ?_
 refine Fa (.slice none 0 0) ?_
 refine Fa (.bool false) ?_
 apply F.es
 apply h18
 refine wp_ret ?_
 try simp only [Exit.then]
 refine ret2 (v := .slice none 0 0) (x := .bool false) rfl kk kk ?_
 have e8 : SegmentPlan_v1 m ps vs s id = false := by unfold SegmentPlan_v1; rw [q14]; try rfl
 exact fin_ints (zs := []) (World.ownsRow_nil _ _ _ _) (by unfold SegmentPlan_v0; rw [if_neg (by rw [e8]; simp)]) e8.symm c99
set_option maxRecDepth 100000 in
set_option maxHeartbeats 8000000 in
theorem SegmentPlan_spec (m : Int) (A : Option Addr) (n c : Nat) (ps : List Pp) (A2 : Option Addr) (n2 c2 : Nat) (vs : List Vv) (s id : Int) (w : World) (ha : Rd w 4 A n (pipesV ps)) (hb : Rd w 4 A2 n2 (valvesV vs)) (hn : n ≤ 1048576) (hn2 : n2 ≤ 1048576) (hfm : Fm A n c) (hfm2 : Fm A2 n2 c2) :
    Calls Try.prog 57 #[.agg #[.int .i64 m, .slice A n c], .slice A2 n2 c2, .int .i64 s, .int .i64 id] w fun e w' => ∃ A' d, e = .returned (.tuple #[.slice A' (SegmentPlan_v0 m ps vs s id).length d, .bool (SegmentPlan_v1 m ps vs s id)]) ∧ Rd w' 1 A' (SegmentPlan_v0 m ps vs s id).length (intsV (SegmentPlan_v0 m ps vs s id)) ∧ Below w.heap.size w w' := by
 have hl := rd_pipes_len ha
 have hl2 := rd_valves_len hb
 have hfl := findL_lt ps id
 go_enter Try.func57, Try.ntmps57
 refine F.begin 60 [(0, .agg #[.int .i64 m, .slice A n c]), (1, .slice A2 n2 c2), (2, .int .i64 s), (3, .int .i64 id)] (fun U0 => ?_)
 refine wk fun K1 h1 => ?_
 refine W.region_plain (row := none) [(0, true), (1, false), (2, false)] kk ?_
 have s1 := SG.self w none
 refine W.sn (fun b => .pointer (some ⟨b, 0, none⟩)) #[.int .i64 m, .slice A n c] 26 s1 rfl kk rfl (fun _ => by kernel_rfl) (fun b2 w3 hb4 k5 x6 s7 => ?_)
 apply F.nx
 have lo8 : w.heap.size ≤ b2 := Nl ((Sb (Below.refl _ _) s1 nkk)).size (Nat.le_of_eq hb4)
 refine Fa (.slice none 0 0) ?_
 refine Fa (.bool false) ?_
 apply F.es
 have c9 := (Sb (Below.refl _ _) s7 nkk)
 apply h1
 refine wk fun K2 h2 => ?_
 refine wk fun K3 h3 => ?_
 refine W.region_plain (row := none) [(0, false), (1, false), (2, false), (3, false), (4, true), (5, false)] kk ?_
 have s10 := SG.self w3 none
 refine Fq (.agg #[.int .i64 m, .slice A n c]) (r_load2 rfl ek kk kk (sgS (blk_cell (j := 0) x6 kk) onn) (sgS (blk_cell (j := 1) x6 kk) onn)) ?_
 refine Fv (.slice A2 n2 c2) ?_
 refine Fv (.int .i64 s) ?_
 refine Fv (.int .i64 id) ?_
 refine Fc [.agg #[.int .i64 m, .slice A n c], .slice A2 n2 c2, .int .i64 s, .int .i64 id] (l5Asked_any m A n c ps A2 n2 c2 vs s id _ (Rk ha (Sb c9 s10 nkk)) (Rk hb (Sb c9 s10 nkk)) (by omega) (by omega) hfm2) ?_
 rintro e w12 ⟨rfl, b11⟩
 have s13 := SG.of_below s10 b11
 refine ⟨_, rfl, s13, ?_⟩
 apply F.nx
 rcases Bool.eq_false_or_eq_true (canB m ps vs s id) with q14 | q14
 ·rw [q14]
  obtain ⟨hv9, hs, hfa⟩ := canB_of q14
  have hg := hv9.net
  have hgl := hg.lo
  have hgh := hg.hi
  have hp := hg.pipesIn
  have hlen10 := hg.len
  have hu := hv9.uniq
  have hvl := hv9.len
  refine Fq (.bool false) (r_not (b := true) rfl ek rfl) ?_
  apply F.es
  have x6 := Sk s13 x6 onn
  have c15 := (Sb c9 s13 nkk)
  apply h3
  refine wp_cond_false ek ?_
  apply wp_skip
  apply h2
  refine wk fun K4 h4 => ?_
  refine W.region_plain (row := none) [(0, false), (1, false), (2, false), (3, true), (4, false), (5, false), (6, false), (7, false), (8, false)] kk ?_
  have s16 := SG.self w12 none
  refine Fq (.agg #[.int .i64 m, .slice A n c]) (r_load2 rfl ek kk kk (sgS (blk_cell (j := 0) x6 kk) onn) (sgS (blk_cell (j := 1) x6 kk) onn)) ?_
  refine Fv (.slice A2 n2 c2) ?_
  refine Fv (.int .i64 id) ?_
  refine Fc [.agg #[.int .i64 m, .slice A n c], .slice A2 n2 c2, .int .i64 id] (ValvesAround_spec m A n c ps A2 n2 c2 vs id _ (Rk ha (Sb c15 s16 nkk)) (Rk hb (Sb c15 s16 nkk)) (by omega) (by omega) hfm hfm2) ?_
  rintro e w24 ⟨A17, c19, rfl, rd20, b23⟩
  have s25 := SG.of_below s16 b23
  refine ⟨_, rfl, s25, ?_⟩
  apply F.nx
  have hva : ValvesAround_v1 m ps vs id = true := by unfold ValvesAround_v1; have h9 := q14; unfold canB at h9; simp only [Bool.and_eq_true] at h9; rw [h9.1.1, decide_eq_true hfa]; try rfl
  have ev0 : (ValvesAround_v0 m ps vs id) = (idsV vs (aroundI ps vs (9 + findL ps id) vs.length)) := by unfold ValvesAround_v0; rw [if_pos hva]
  have rd20 : Rd w24 1 A17 (ValvesAround_v0 m ps vs id).length (intsV (idsV vs (aroundI ps vs (9 + findL ps id) vs.length))) := by rw [← ev0]; exact rd20
  have hl21 : (idsV vs (aroundI ps vs (9 + findL ps id) vs.length)).length = (ValvesAround_v0 m ps vs id).length := by rw [ev0]
  have hil := idsV_len vs (aroundI ps vs (9 + findL ps id) vs.length)
  have := aroundI_len ps vs (9 + findL ps id) vs.length
  refine Fv (.tuple #[.slice A17 ((ValvesAround_v0 m ps vs id).length) c19, .bool (ValvesAround_v1 m ps vs id)]) ?_
  refine Fq (.slice A17 ((ValvesAround_v0 m ps vs id).length) c19) (r_extract (vs := #[.slice A17 ((ValvesAround_v0 m ps vs id).length) c19, .bool (ValvesAround_v1 m ps vs id)]) rfl ek kk) ?_
  refine Fq (.bool (ValvesAround_v1 m ps vs id)) (r_extract (vs := #[.slice A17 ((ValvesAround_v0 m ps vs id).length) c19, .bool (ValvesAround_v1 m ps vs id)]) rfl ek kk) ?_
  refine Fa (.slice A17 ((ValvesAround_v0 m ps vs id).length) c19) ?_
  refine Fa (.bool (ValvesAround_v1 m ps vs id)) ?_
  apply F.es
  have x6 := Sk s25 x6 onn
  have c26 := (Sb c15 s25 nkk)
  apply h4
  refine wk fun K5 h5 => ?_
  refine W.region_plain (row := none) [(0, true), (1, false)] kk ?_
  have s27 := SG.self w24 none
  refine W.sn (fun b => .slice (some ⟨b, 0, none⟩) 0 0) #[] 3 s27 rfl kk rfl (fun _ => by kernel_rfl) (fun b28 w29 hb30 k31 x32 s33 => ?_)
  apply F.nx
  have lo34 : w.heap.size ≤ b28 := Nl ((Sb c26 s27 nkk)).size (Nat.le_of_eq hb30)
  have sp35 : Sp A17 ((ValvesAround_v0 m ps vs id).length) (some b28) := sp_new rd20 (by have := (s27).size; have := hb30; omega)
  have ne36 : b2 ≠ b28 := Nat.ne_of_lt (Nat.lt_of_lt_of_eq (Nat.lt_of_lt_of_le (blk_lt x6) (s27).size) hb30)
  refine Fa (.slice (some ⟨b28, 0, none⟩) 0 0) ?_
  apply F.es
  have x6 := Sk s33 x6 onn
  have c37 := (Sb c26 s33 nkk)
  have rd38 := Rk rd20 (SG.below s33)
  apply h5
  refine wk fun K6 h6 => ?_
  refine W.region_plain (row := none) [(0, false), (1, true), (2, false)] kk ?_
  have s39 := SG.self w29 none
  refine Fv (.slice A2 n2 c2) ?_
  refine Fc [.slice A2 n2 c2] (l5Open_any A2 n2 c2 vs _ (Rk hb (Sb c37 s39 nkk)) (by omega)) ?_
  rintro e w49 ⟨A40, n41, c42, rfl, ho43, b48⟩
  have s50 := SG.of_below s39 b48
  refine ⟨_, rfl, s50, ?_⟩
  apply F.nx
  have rd44 := own_rd ho43
  have hl45 := rd_ints_len rd44
  have sp52 := sp_freshB (g := b28) ho43 (Nat.lt_of_lt_of_le (blk_lt x32) (World.grownBy.size s39))
  have := openIds_len vs
  refine Fa (.slice A40 n41 c42) ?_
  apply F.es
  have x6 := Sk s50 x6 onn
  have x32 := Sk s50 x32 onn
  have c53 := (Sb c37 s50 nkk)
  have rd54 := Rk rd38 (SG.below s50)
  apply h6
  refine wk fun K7 h7 => ?_
  refine wk fun K8 h8 => ?_
  refine Rq 1 ?_
  refine Fa (.int .i64 0) ?_
  apply F.es
  apply h8
  refine wp_block ?_
  have ho55 := own_empty (base := w.heap.size) (size := 1) x32 lo34
  replace ho55 : World.ownsRow _ _ _ _ _ _ (intsV []) := ho55
  have sp56 := sp_own (n' := 0) (c := 0) sp35
  have sp57 := sp_own (n' := 0) (c := 0) sp52
  have nb58 : Nb b2 (.slice (some ⟨b28, 0, none⟩) 0 0) := nb_new ne36
  refine loopK (fun am0 aa0 wl0 => ∃ (i : Nat) (A0_12 : Option Addr) (n0_12 : Nat) (c0_12 : Nat) , Kn aa0 [(0, .agg #[.int .i64 m, .slice A n c]), (1, .slice A2 n2 c2), (2, .int .i64 s), (3, .int .i64 id), (4, .pointer (some ⟨b2, 0, none⟩)), (8, .slice none 0 0), (9, .bool false), (10, .slice A17 ((ValvesAround_v0 m ps vs id).length) c19), (12, .slice A0_12 n0_12 c0_12), (13, .slice A40 n41 c42), (14, .int .i64 (i : Int)), (20, .bool false)] 60 ∧ (am0 = (ValvesAround_v0 m ps vs id).length - i) ∧ (i ≤ (ValvesAround_v0 m ps vs id).length) ∧ (n0_12 ≤ i) ∧ (wl0.heap[b2]? = some (.cells #[.int .i64 m, .slice A n c] 26 (0, 0))) ∧ (wl0.ownsRow w.heap.size 3 1 (.slice A0_12 n0_12 c0_12) n0_12 (intsV (segIds vs ((aroundI ps vs (9 + findL ps id) vs.length).take i)))) ∧ (Nb b2 (.slice A0_12 n0_12 c0_12)) ∧ (Rd wl0 1 A17 ((ValvesAround_v0 m ps vs id).length) (intsV (idsV vs (aroundI ps vs (9 + findL ps id) vs.length)))) ∧ (Rd wl0 1 A40 n41 (intsV (openIds vs))) ∧ (Sp A17 ((ValvesAround_v0 m ps vs id).length) (Value.ownBlock (.slice A0_12 n0_12 c0_12))) ∧ (Sp A40 n41 (Value.ownBlock (.slice A0_12 n0_12 c0_12))) ∧ (Below w.heap.size w wl0)) ((ValvesAround_v0 m ps vs id).length - 0) ?_ ?_
  ·exact ⟨0, (some ⟨b28, 0, none⟩), 0, 0, Kn.of, rfl, (Nat.zero_le _), (Nat.zero_le _), x6, ho55, nb58, rd54, rd44, sp56, sp57, c53⟩
  rintro am0 aa0 wl0 K9 h9 ⟨i, A0_12, n0_12, c0_12, ⟨U0, rfl⟩, rfl, hi, hb12, x6, ho0_12, nb0_12_b2, rd0_10, rd0_13, sp0_10_12, sp0_13_12, c59⟩
  refine wk fun K10 h10 => ?_
  refine wk fun K11 h11 => ?_
  refine Rq 4 ?_
  refine Fv (.int .i64 (i : Int)) ?_
  refine Fv (.slice A17 ((ValvesAround_v0 m ps vs id).length) c19) ?_
  refine Fq (.int .i64 (((ValvesAround_v0 m ps vs id).length : Nat) : Int)) (r_len (A := A17) (n := (ValvesAround_v0 m ps vs id).length) (c := c19) rfl ek kk) ?_
  by_cases q60 : ((i : Int) : Int) < ((((ValvesAround_v0 m ps vs id).length : Nat) : Int) : Int)
  ·refine Fq (.bool true) (r_lss (m := (i : Int)) (n := (((ValvesAround_v0 m ps vs id).length : Nat) : Int)) rfl ek ek (dt q60)) ?_
   apply F.es
   apply h11
   refine wp_cond_true ek ?_
   apply wp_skip
   apply h10
   refine wk fun K12 h12 => ?_
   refine wp_block ?_
   refine wk fun K13 h13 => ?_
   refine W.region_plain (row := none) [(0, false), (1, false), (2, false), (3, false), (4, false), (5, true)] kk ?_
   have s61 := SG.self wl0 none
   refine Fv (.slice A40 n41 c42) ?_
   refine Fv (.slice A17 ((ValvesAround_v0 m ps vs id).length) c19) ?_
   refine Fv (.int .i64 (i : Int)) ?_
   obtain ⟨ya, hya⟩ := get_of (zs := (aroundI ps vs (9 + findL ps id) vs.length)) (k := i) (by omega)
   have hy9 := aroundI_in (List.mem_of_getElem? hya)
   obtain ⟨va9, hva9⟩ := get_of (zs := vs) (k := ya.toNat) (by omega)
   have hai := idsV_at hya hva9
   obtain ⟨b62, o63, hA64, hb65, hc66⟩ := Rd.elInt rd0_10 hai
   refine Fq (.pointer (some ⟨b62, o63 + i, none⟩)) (r_idx1 (n := (ValvesAround_v0 m ps vs id).length) (c := c19) (k := i) rfl ek hA64 kk kk (by have := hl21; omega)) ?_
   refine Fl (.int .i64 va9.id) (sgS hc66 (by simp)) ?_
   refine Fc [.slice A40 n41 c42, .int .i64 va9.id] (l1Has_any A40 n41 c42 (openIds vs) va9.id _ (Rk rd0_13 (SG.below s61)) (by omega)) ?_
   rintro e w68 ⟨rfl, b67⟩
   have s69 := SG.of_below s61 b67
   refine ⟨_, rfl, s69, ?_⟩
   apply F.nx
   have ho70 := own_kept ho0_12 b67
   rcases Bool.eq_false_or_eq_true ((openIds vs).contains va9.id) with q71 | q71
   ·rw [q71]
    apply F.es
    have x6 := Sk s69 x6 onn
    have c72 := (Sb c59 s69 nkk)
    have rd73 := Rk rd0_10 (SG.below s69)
    have rd74 := Rk rd0_13 (SG.below s69)
    apply h13
    refine wp_cond_true ek ?_
    refine W.region_plain (row := (Value.ownBlock (.slice A0_12 n0_12 c0_12))) [(0, false), (1, false), (2, false), (3, false), (4, false), (5, true), (6, true), (7, false)] kk ?_
    have s75 := SG.self w68 (Value.ownBlock (.slice A0_12 n0_12 c0_12))
    refine Fv (.slice A0_12 n0_12 c0_12) ?_
    refine Fv (.slice A17 ((ValvesAround_v0 m ps vs id).length) c19) ?_
    refine Fv (.int .i64 (i : Int)) ?_
    obtain ⟨b76, o77, hA78, hb79, hc80⟩ := Rd.elInt rd73 hai
    refine Fq (.pointer (some ⟨b76, o77 + i, none⟩)) (r_idx1 (n := (ValvesAround_v0 m ps vs id).length) (c := c19) (k := i) rfl ek hA78 kk kk (by have := hl21; omega)) ?_
    refine Fl (.int .i64 va9.id) (sgS hc80 (sp0_10_12 (by omega) _ _ hA78)) ?_
    refine W.sn (fun b => .slice (some ⟨b, 0, none⟩) 1 1) #[.int .i64 va9.id] 3 s75 rfl kk rfl (fun _ => by kernel_rfl) (fun b81 w82 hb83 k84 x85 s86 => ?_)
    apply F.nx
    have lo87 : w.heap.size ≤ b81 := Nl ((Sb c72 s75 (fun kq e => (World.ownsRow.lt ho70 kq e).1))).size (Nat.le_of_eq hb83)
    have ho92 := own_kept ho70 k84
    refine W.sap (e := 3) (size := 1) (base := w.heap.size) (m := 1) (v := .slice A0_12 n0_12 c0_12) (c := 1) s86 rfl rfl rfl rfl kk kk kk ho92 x85 kk kk (by omega) (by omega) (by have := ((Sb c72 s86 (fun kq e => (World.ownsRow.lt ho70 kq e).1))).size; omega) (.inl rfl) (fun g93 cap94 w95 ho96 hg97 hat98 hlt99 s100 => ?_)
    apply F.nx
    have nb101 : Nb b2 (.slice (some ⟨g93, 0, none⟩) (n0_12 + 1) cap94) := nb_app nb0_12_b2 (Nat.lt_of_lt_of_le (blk_lt x6) (s86).size) hat98
    have ho96 := own_snoc ho96
    have sp103 := sp_app (v' := .slice (some ⟨g93, 0, none⟩) (n0_12 + 1) cap94) sp0_10_12 rd73 ((s86).size) (hat3 (v := .slice A0_12 n0_12 c0_12) hat98)
    have sp104 := sp_app (v' := .slice (some ⟨g93, 0, none⟩) (n0_12 + 1) cap94) sp0_13_12 rd74 ((s86).size) (hat3 (v := .slice A0_12 n0_12 c0_12) hat98)
    refine Fa (.slice (some ⟨g93, 0, none⟩) (n0_12 + 1) cap94) ?_
    apply F.es
    have x6 := Sk s100 x6 nb0_12_b2
    have c105 := (Sb c72 s100 (fun kq e => (World.ownsRow.lt ho70 kq e).1))
    have rd106 := rd_sep rd73 s100 sp0_10_12
    have rd107 := rd_sep rd74 s100 sp0_13_12
    apply h12
    refine Rq 3 ?_
    refine Fv (.int .i64 (i : Int)) ?_
    refine Fq (.int .i64 ((i + 1 : Nat) : Int)) (r_add (m := (i : Int)) (n := 1) (z := ((i + 1 : Nat) : Int)) rfl ek ek (by omega) (by omega)) ?_
    refine Fa (.int .i64 ((i + 1 : Nat) : Int)) ?_
    apply F.es
    exact h9 _ _ _ (by omega : ((ValvesAround_v0 m ps vs id).length - (i + 1)) < _) ⟨i + 1, (some ⟨g93, 0, none⟩), (n0_12 + 1), cap94, Kn.of, rfl, (by omega), (by omega), x6, (by rw [segIds_yes hya hva9 (by have h9 := q71; rw [open_first hv9 hva9 rfl] at h9; simpa using h9)]; exact ho96), nb101, rd106, rd107, sp103, sp104, c105⟩
   rw [q71]
   apply F.es
   have x6 := Sk s69 x6 onn
   have c108 := (Sb c59 s69 nkk)
   have rd109 := Rk rd0_10 (SG.below s69)
   have rd110 := Rk rd0_13 (SG.below s69)
   apply h13
   refine wp_cond_false ek ?_
   apply wp_skip
   apply h12
   refine Rq 3 ?_
   refine Fv (.int .i64 (i : Int)) ?_
   refine Fq (.int .i64 ((i + 1 : Nat) : Int)) (r_add (m := (i : Int)) (n := 1) (z := ((i + 1 : Nat) : Int)) rfl ek ek (by omega) (by omega)) ?_
   refine Fa (.int .i64 ((i + 1 : Nat) : Int)) ?_
   apply F.es
   exact h9 _ _ _ (by omega : ((ValvesAround_v0 m ps vs id).length - (i + 1)) < _) ⟨i + 1, A0_12, n0_12, c0_12, Kn.of, rfl, (by omega), (by omega), x6, (by rw [segIds_no hya hva9 (by have h9 := q71; rw [open_first hv9 hva9 rfl] at h9; simpa using h9)]; exact ho70), nb0_12_b2, rd109, rd110, sp0_10_12, sp0_13_12, c108⟩
  refine Fq (.bool false) (r_lss (m := (i : Int)) (n := (((ValvesAround_v0 m ps vs id).length : Nat) : Int)) rfl ek ek (df q60)) ?_
  apply F.es
  apply h11
  refine wp_cond_false ek ?_
  refine wp_exit ?_
  apply h7
  refine wk fun K14 h14 => ?_
  refine wk fun K15 h15 => ?_
  refine W.region_plain (row := none) [(0, false), (1, false), (2, false), (3, false), (4, false), (5, true), (6, false)] kk ?_
  have s111 := SG.self wl0 none
  refine Fq (.agg #[.int .i64 m, .slice A n c]) (r_load2 rfl ek kk kk (sgS (blk_cell (j := 0) x6 kk) onn) (sgS (blk_cell (j := 1) x6 kk) onn)) ?_
  refine Fv (.slice A2 n2 c2) ?_
  refine Fv (.int .i64 s) ?_
  refine Fv (.int .i64 id) ?_
  refine Fv (.slice A0_12 n0_12 c0_12) ?_
  refine Fc [.agg #[.int .i64 m, .slice A n c], .slice A2 n2 c2, .int .i64 s, .int .i64 id, .slice A0_12 n0_12 c0_12] (l5Cut_any m A n c ps A2 n2 c2 vs s id A0_12 n0_12 c0_12 (segIds vs ((aroundI ps vs (9 + findL ps id) vs.length).take i)) _ (Rk ha (Sb c59 s111 nkk)) (Rk hb (Sb c59 s111 nkk)) (by omega) (by omega) hfm2 hv9 hs hfa (own_rd ho0_12) (by omega)) ?_
  rintro e w113 ⟨rfl, b112⟩
  have s114 := SG.of_below s111 b112
  refine ⟨_, rfl, s114, ?_⟩
  apply F.nx
  have ho115 := own_kept ho0_12 b112
  rcases Bool.eq_false_or_eq_true (cutB ps vs s id (segIds vs ((aroundI ps vs (9 + findL ps id) vs.length).take i))) with q116 | q116
  ·rw [q116]
   refine Fq (.bool false) (r_not (b := true) rfl ek rfl) ?_
   apply F.es
   have c117 := (Sb c59 s114 nkk)
   apply h15
   refine wp_cond_false ek ?_
   apply wp_skip
   apply h14
   refine wk fun K16 h16 => ?_
   refine Rq 3 ?_
   refine Fv (.slice A0_12 n0_12 c0_12) ?_
   refine Fa (.slice A0_12 n0_12 c0_12) ?_
   refine Fa (.bool true) ?_
   apply F.es
   apply h16
   refine wp_ret ?_
   try simp only [Exit.then]
   refine ret2 (v := .slice A0_12 n0_12 c0_12) (x := .bool true) rfl kk kk ?_
   have e8 : SegmentPlan_v1 m ps vs s id = true := by unfold SegmentPlan_v1 segPlan; rw [q14, show segIds vs (aroundI ps vs (9 + findL ps id) vs.length) = segIds vs ((aroundI ps vs (9 + findL ps id) vs.length).take i) from by rw [List.take_of_length_le (by omega)], q116]; try rfl
   exact fin_rd  (own_rd ho115) (by unfold SegmentPlan_v0 segPlan; rw [if_pos e8, List.take_of_length_le (by omega)]) e8.symm c117
  rw [q116]
  refine Fq (.bool true) (r_not (b := false) rfl ek rfl) ?_
  apply F.es
  have c120 := (Sb c59 s114 nkk)
  apply h15
  refine wp_cond_true ek ?_
  refine wk fun K17 h17 => ?_
  refine W.region_plain (row := none) [(0, true), (1, false), (2, false)] kk ?_
  have s123 := SG.self w113 none
  refine W.sn (fun b => .slice (some ⟨b, 0, none⟩) 0 0) #[] 3 s123 rfl kk rfl (fun _ => by kernel_rfl) (fun b124 w125 hb126 k127 x128 s129 => ?_)
  apply F.nx
  have lo130 : w.heap.size ≤ b124 := Nl ((Sb c120 s123 nkk)).size (Nat.le_of_eq hb126)
  refine Fa (.slice (some ⟨b124, 0, none⟩) 0 0) ?_
  refine Fa (.bool false) ?_
  apply F.es
  have c136 := (Sb c120 s129 nkk)
  apply h17
  refine wp_ret ?_
  try simp only [Exit.then]
  refine ret2 (v := .slice (some ⟨b124, 0, none⟩) 0 0) (x := .bool false) rfl kk kk ?_
  have ho139 := own_empty (base := w.heap.size) (size := 1) x128 lo130
  replace ho139 : World.ownsRow _ _ _ _ _ _ (intsV []) := ho139
  have e8 : SegmentPlan_v1 m ps vs s id = false := by unfold SegmentPlan_v1 segPlan; rw [show segIds vs (aroundI ps vs (9 + findL ps id) vs.length) = segIds vs ((aroundI ps vs (9 + findL ps id) vs.length).take i) from by rw [List.take_of_length_le (by omega)], q116, Bool.and_false]
  exact fin_rd (zs := []) (own_rd ho139) (by unfold SegmentPlan_v0; rw [if_neg (by rw [e8]; simp)]) e8.symm c136
 rw [q14]
 refine Fq (.bool true) (r_not (b := false) rfl ek rfl) ?_
 apply F.es
 have c144 := (Sb c9 s13 nkk)
 apply h3
 refine wp_cond_true ek ?_
 refine wk fun K18 h18 => ?_
 refine W.region_plain (row := none) [(0, true), (1, false), (2, false)] kk ?_
 have s145 := SG.self w12 none
 refine W.sn (fun b => .slice (some ⟨b, 0, none⟩) 0 0) #[] 3 s145 rfl kk rfl (fun _ => by kernel_rfl) (fun b146 w147 hb148 k149 x150 s151 => ?_)
 apply F.nx
 have lo152 : w.heap.size ≤ b146 := Nl ((Sb c144 s145 nkk)).size (Nat.le_of_eq hb148)
 refine Fa (.slice (some ⟨b146, 0, none⟩) 0 0) ?_
 refine Fa (.bool false) ?_
 apply F.es
 have c154 := (Sb c144 s151 nkk)
 apply h18
 refine wp_ret ?_
 try simp only [Exit.then]
 refine ret2 (v := .slice (some ⟨b146, 0, none⟩) 0 0) (x := .bool false) rfl kk kk ?_
 have ho155 := own_empty (base := w.heap.size) (size := 1) x150 lo152
 replace ho155 : World.ownsRow _ _ _ _ _ _ (intsV []) := ho155
 have e8 : SegmentPlan_v1 m ps vs s id = false := by unfold SegmentPlan_v1; rw [q14]; try rfl
 exact fin_rd (zs := []) (own_rd ho155) (by unfold SegmentPlan_v0; rw [if_neg (by rw [e8]; simp)]) e8.symm c154
end Go.Proofs.Ytdbgfejeleafgaa
namespace Go.Proofs.Ytdbgfejeleafgaa
open Go.RowKit
set_option linter.unusedVariables false
set_option linter.unusedSimpArgs false
theorem findL_pos {ps : List Pp} {p : Pp} (h : p ∈ ps) : 0 ≤ findL ps p.id := by
  induction ps with
  | nil => cases h
  | cons q ps ih =>
    unfold findL
    by_cases e : q.id = p.id
    · rw [if_pos e]; exact Int.le_refl _
    · rw [if_neg e]
      have hp : p ∈ ps := (List.mem_cons.1 h).elim (fun e' => absurd (by rw [e']) e) id
      have := ih hp
      rw [if_neg (by omega)]; omega
def allIds (vs : List Vv) : List Int := vs.map (fun v => v.id)
theorem allIds_take {vs : List Vv} {i : Nat} {x : Vv} (hx : vs[i]? = some x) : allIds (vs.take (i + 1)) = allIds (vs.take i) ++ [x.id] := by
  unfold allIds; rw [List.take_add_one, hx, List.map_append]; rfl
theorem cut_all {m : Int} {ps : List Pp} {vs : List Vv} (s id : Int) : cutB ps vs s id (allIds vs) = cutB ps vs s id (openIds vs) := by
  rw [Bool.eq_iff_iff]
  constructor
  · exact cut_open
  · exact cut_mono (fun u hu _ _ => List.contains_iff_mem.2 (List.mem_map.2 ⟨u, hu, rfl⟩))
noncomputable def hopeL (ps : List Pp) (vs : List Vv) (s : Int) (qs : List Pp) : List Int := (qs.filter (fun p => !cutB ps vs s p.id (openIds vs))).map (fun p => p.id)
theorem hopeL_yes {ps : List Pp} {vs : List Vv} {s : Int} {qs : List Pp} {i : Nat} {p : Pp} (hp : qs[i]? = some p) (h : cutB ps vs s p.id (openIds vs) = false) : hopeL ps vs s (qs.take (i + 1)) = hopeL ps vs s (qs.take i) ++ [p.id] := by
  unfold hopeL; rw [List.take_add_one, hp, List.filter_append, List.map_append]; simp [h]
theorem hopeL_no {ps : List Pp} {vs : List Vv} {s : Int} {qs : List Pp} {i : Nat} {p : Pp} (hp : qs[i]? = some p) (h : cutB ps vs s p.id (openIds vs) = true) : hopeL ps vs s (qs.take (i + 1)) = hopeL ps vs s (qs.take i) := by
  unfold hopeL; rw [List.take_add_one, hp, List.filter_append, List.map_append]; simp [h]
def HopelessPipes_v1 (m : Int) (ps : List Pp) (vs : List Vv) (s : Int) : Bool := goodV m ps vs && inB s 1 m
noncomputable def HopelessPipes_v0 (m : Int) (ps : List Pp) (vs : List Vv) (s : Int) : List Int := if HopelessPipes_v1 m ps vs s = true then hopeL ps vs s ps else []
theorem HopelessPipes_len (m : Int) (ps : List Pp) (vs : List Vv) (s : Int) : (HopelessPipes_v0 m ps vs s).length ≤ 1048576 := by
  unfold HopelessPipes_v0
  split
  · rename_i h
    have hg : goodV m ps vs = true := by unfold HopelessPipes_v1 at h; rw [Bool.and_eq_true] at h; exact h.1
    have := (goodV_of hg).net.len
    have := List.length_filter_le (fun p => !cutB ps vs s p.id (openIds vs)) ps
    unfold hopeL; rw [List.length_map]; omega
  · simp
set_option maxRecDepth 100000 in
set_option maxHeartbeats 8000000 in
theorem HopelessPipes_impl (m : Int) (A : Option Addr) (n c : Nat) (ps : List Pp) (A2 : Option Addr) (n2 c2 : Nat) (vs : List Vv) (s : Int) (w : World) (ha : Rd w 4 A n (pipesV ps)) (hb : Rd w 4 A2 n2 (valvesV vs)) (hn : n ≤ 1048576) (hn2 : n2 ≤ 1048576) (hfm : Fm A n c) (hfm2 : Fm A2 n2 c2) :
    Calls Try.prog 54 #[.agg #[.int .i64 m, .slice A n c], .slice A2 n2 c2, .int .i64 s] w fun e w' => ∃ A' d, e = .returned (.tuple #[.slice A' (HopelessPipes_v0 m ps vs s).length d, .bool (HopelessPipes_v1 m ps vs s)]) ∧ w'.ownsRow w.heap.size 3 1 (.slice A' (HopelessPipes_v0 m ps vs s).length d) (HopelessPipes_v0 m ps vs s).length (intsV (HopelessPipes_v0 m ps vs s)) ∧ Below w.heap.size w w' := by
 have hl := rd_pipes_len ha
 have hl2 := rd_valves_len hb
 go_enter Try.func54, Try.ntmps54
 refine F.begin 60 [(0, .agg #[.int .i64 m, .slice A n c]), (1, .slice A2 n2 c2), (2, .int .i64 s)] (fun U0 => ?_)
 refine wk fun K1 h1 => ?_
 refine W.region_plain (row := none) [(0, true), (1, false), (2, false)] kk ?_
 have s1 := SG.self w none
 refine W.sn (fun b => .pointer (some ⟨b, 0, none⟩)) #[.int .i64 m, .slice A n c] 26 s1 rfl kk rfl (fun _ => by kernel_rfl) (fun b2 w3 hb4 k5 x6 s7 => ?_)
 apply F.nx
 have lo8 : w.heap.size ≤ b2 := Nl ((Sb (Below.refl _ _) s1 nkk)).size (Nat.le_of_eq hb4)
 refine Fa (.slice none 0 0) ?_
 refine Fa (.bool false) ?_
 apply F.es
 have c9 := (Sb (Below.refl _ _) s7 nkk)
 apply h1
 refine wk fun K2 h2 => ?_
 refine wk fun K3 h3 => ?_
 refine W.region_plain (row := none) [(0, false), (1, false), (2, true), (3, false), (4, false), (5, false), (6, false), (7, true), (8, false), (9, false)] kk ?_
 have s10 := SG.self w3 none
 refine Fq (.agg #[.int .i64 m, .slice A n c]) (r_load2 rfl ek kk kk (sgS (blk_cell (j := 0) x6 kk) onn) (sgS (blk_cell (j := 1) x6 kk) onn)) ?_
 refine Fv (.slice A2 n2 c2) ?_
 refine Fc [.agg #[.int .i64 m, .slice A n c], .slice A2 n2 c2] (IsValidValves_any m A n c ps A2 n2 c2 vs _ (Rk ha (Sb c9 s10 nkk)) (Rk hb (Sb c9 s10 nkk)) (by omega) (by omega) hfm2) ?_
 rintro e w12 ⟨rfl, b11⟩
 have s13 := SG.of_below s10 b11
 refine ⟨_, rfl, s13, ?_⟩
 apply F.nx
 rcases Bool.eq_false_or_eq_true (goodV m ps vs) with q14 | q14
 ·rw [q14]
  have hv9 := goodV_of q14
  have hg := hv9.net
  have hgl := hg.lo
  have hgh := hg.hi
  have hp := hg.pipesIn
  have hlen10 := hg.len
  have hu := hv9.uniq
  have hvl := hv9.len
  refine Fq (.bool false) (r_not (b := true) rfl ek rfl) ?_
  refine Fv (.bool false) ?_
  refine Fq (.agg #[.int .i64 m, .slice A n c]) (r_load2 rfl ek kk kk (sgS (blk_cell (j := 0) x6 kk) onn) (sgS (blk_cell (j := 1) x6 kk) onn)) ?_
  refine Fv (.int .i64 s) ?_
  refine Fc [.agg #[.int .i64 m, .slice A n c], .int .i64 s] (has_any m A n c ps s _) ?_
  rintro e w16 ⟨rfl, b15⟩
  have s17 := SG.of_below s13 b15
  refine ⟨_, rfl, s17, ?_⟩
  apply F.nx
  rcases Bool.eq_false_or_eq_true (inB s 1 m) with q18 | q18
  ·rw [q18]
   have hs9 := inB_iff.1 q18
   refine Fq (.bool false) (r_not (b := true) rfl ek rfl) ?_
   refine Fq (.bool false) (r_pick (b := false) rfl ek ek) ?_
   apply F.es
   have x6 := Sk s17 x6 onn
   have c19 := (Sb c9 s17 nkk)
   apply h3
   refine wp_cond_false ek ?_
   apply wp_skip
   apply h2
   refine wk fun K4 h4 => ?_
   refine W.region_plain (row := none) [(0, true), (1, true), (2, false), (3, false)] kk ?_
   have s20 := SG.self w16 none
   refine W.sn (fun b => .slice (some ⟨b, 0, none⟩) 0 0) #[] 3 s20 rfl kk rfl (fun _ => by kernel_rfl) (fun b21 w22 hb23 k24 x25 s26 => ?_)
   apply F.nx
   have lo27 : w.heap.size ≤ b21 := Nl ((Sb c19 s20 nkk)).size (Nat.le_of_eq hb23)
   have ne28 : b2 ≠ b21 := Nat.ne_of_lt (Nat.lt_of_lt_of_eq (Nat.lt_of_lt_of_le (blk_lt x6) (s20).size) hb23)
   refine W.sn (fun b => .slice (some ⟨b, 0, none⟩) 0 0) #[] 3 s26 rfl kk rfl (fun _ => by kernel_rfl) (fun b29 w30 hb31 k32 x33 s34 => ?_)
   apply F.nx
   have lo35 : w.heap.size ≤ b29 := Nl ((Sb c19 s26 nkk)).size (Nat.le_of_eq hb31)
   have ne36 : b2 ≠ b29 := Nat.ne_of_lt (Nat.lt_of_lt_of_eq (Nat.lt_of_lt_of_le (blk_lt x6) (s26).size) hb31)
   have ne37 : b21 ≠ b29 := Nat.ne_of_lt (Nat.lt_of_lt_of_eq (blk_lt x25) hb31)
   have x25 := (k32.block _ (blk_lt x25)).trans x25
   refine Fa (.slice (some ⟨b21, 0, none⟩) 0 0) ?_
   refine Fa (.slice (some ⟨b29, 0, none⟩) 0 0) ?_
   apply F.es
   have x6 := Sk s34 x6 onn
   have c38 := (Sb c19 s34 nkk)
   apply h4
   refine wk fun K5 h5 => ?_
   refine wk fun K6 h6 => ?_
   refine Rq 3 ?_
   refine Fv (.slice A2 n2 c2) ?_
   refine Fq (.int .i64 (n2 : Int)) (r_len (A := A2) (n := n2) (c := c2) rfl ek kk) ?_
   refine Fv (.int .i64 0) ?_
   apply F.es
   apply h6
   refine wp_block ?_
   have ho39 := own_empty (base := w.heap.size) (size := 1) x25 lo27
   replace ho39 : World.ownsRow _ _ _ _ _ _ (intsV []) := ho39
   have nb40 : Nb b2 (.slice (some ⟨b21, 0, none⟩) 0 0) := nb_new ne28
   have nb41 : Nb b29 (.slice (some ⟨b21, 0, none⟩) 0 0) := nb_new (Ne.symm ne37)
   refine loopK (fun am0 aa0 wl0 => ∃ (j : Nat) (A0_8 : Option Addr) (n0_8 : Nat) (c0_8 : Nat) , Kn aa0 [(0, .agg #[.int .i64 m, .slice A n c]), (1, .slice A2 n2 c2), (2, .int .i64 s), (3, .pointer (some ⟨b2, 0, none⟩)), (6, .slice none 0 0), (7, .bool false), (8, .slice A0_8 n0_8 c0_8), (9, .slice (some ⟨b29, 0, none⟩) 0 0), (23, .bool false), (26, .slice A2 n2 c2), (27, .int .i64 (n2 : Int)), (28, .int .i64 (j : Int))] 60 ∧ (am0 = n2 - j) ∧ (j ≤ n2) ∧ (n0_8 ≤ j) ∧ (wl0.heap[b2]? = some (.cells #[.int .i64 m, .slice A n c] 26 (0, 0))) ∧ (wl0.heap[b29]? = some (.cells #[] 3 (0, 0))) ∧ (wl0.ownsRow w.heap.size 3 1 (.slice A0_8 n0_8 c0_8) n0_8 (intsV (allIds (vs.take j)))) ∧ (Nb b2 (.slice A0_8 n0_8 c0_8)) ∧ (Nb b29 (.slice A0_8 n0_8 c0_8)) ∧ (Below w.heap.size w wl0)) (n2 - 0) ?_ ?_
   ·exact ⟨0, (some ⟨b21, 0, none⟩), 0, 0, Kn.of, rfl, (Nat.zero_le _), (Nat.zero_le _), x6, x33, ho39, nb40, nb41, c38⟩
   rintro am0 aa0 wl0 K7 h7 ⟨j, A0_8, n0_8, c0_8, ⟨U0, rfl⟩, rfl, hj, hb8, x6, x33, ho0_8, nb0_8_b2, nb0_8_b29, c42⟩
   refine wk fun K8 h8 => ?_
   refine Rq 1 ?_
   by_cases q43 : ((j : Int) : Int) < ((n2 : Int) : Int)
   ·refine Fq (.bool true) (r_lss (m := (j : Int)) (n := (n2 : Int)) rfl ek ek (dt q43)) ?_
    apply F.es
    apply h8
    refine wk fun K9 h9 => ?_
    refine wp_cond_true ek ?_
    apply wp_skip
    apply h9
    refine wk fun K10 h10 => ?_
    refine wp_block ?_
    refine wk fun K11 h11 => ?_
    refine W.region_plain (row := none) [(0, false), (1, false), (2, true), (3, true)] kk ?_
    have s44 := SG.self wl0 none
    obtain ⟨x45, hx46⟩ := get_of (zs := vs) (k := j) (by have := hl2; omega)
    obtain ⟨b47, o48, hA49, hb50, hc51, hc52, hc53, hc54⟩ := Rd.elValve hb hx46
    refine Fq (.pointer (some ⟨b47, o48 + j * 4, none⟩)) (r_idx (n := n2) (c := c2) (k := j) rfl ek hA49 kk kk (by have := hl2; omega)) ?_
    refine Fq (.agg #[.int .i64 x45.id, .int .i64 x45.pipe, .int .i64 x45.node, .bool x45.shut]) (r_load4 rfl ek kk kk (sgS (later c42 hc51) (by simp)) (sgS (later c42 hc52) (by simp)) (sgS (later c42 hc53) (by simp)) (sgS (later c42 hc54) (by simp))) ?_
    refine W.sn (fun b => .pointer (some ⟨b, 0, none⟩)) #[.int .i64 0, .int .i64 0, .int .i64 0, .bool false] 40 s44 rfl kk rfl (fun _ => by kernel_rfl) (fun b55 w56 hb57 k58 x59 s60 => ?_)
    apply F.nx
    have lo61 : w.heap.size ≤ b55 := Nl ((Sb c42 s44 nkk)).size (Nat.le_of_eq hb57)
    have nb64 : Nb b55 (.slice A0_8 n0_8 c0_8) := nb_hi ho0_8 (Nat.le_of_eq hb57)
    have ho65 := own_kept ho0_8 k58
    refine W.ss (v := .agg #[.int .i64 x45.id, .int .i64 x45.pipe, .int .i64 x45.node, .bool x45.shut]) (j := 0) (news := [.int .i64 x45.id, .int .i64 x45.pipe, .int .i64 x45.node, .bool x45.shut]) (cs' := #[.int .i64 x45.id, .int .i64 x45.pipe, .int .i64 x45.node, .bool x45.shut]) s60 rfl kk rfl rfl kk kk x59 kk kk (by simp) kk kk (.inr (Nl (s44).size (Nat.le_of_eq hb57))) (fun w66 g67 x68 s69 => ?_)
    have ho70 := own_grown ho65 g67 (fun j e1 e2 => by cases e2; exact nb64 e1.symm)
    apply F.es
    have x6 := Sk s69 x6 onn
    have x33 := Sk s69 x33 onn
    have c71 := (Sb c42 s69 nkk)
    apply h11
    refine W.region_plain (row := (Value.ownBlock (.slice A0_8 n0_8 c0_8))) [(0, false), (1, false), (2, false), (3, true), (4, true), (5, false)] kk ?_
    have s72 := SG.self w66 (Value.ownBlock (.slice A0_8 n0_8 c0_8))
    refine Fv (.slice A0_8 n0_8 c0_8) ?_
    refine Fq (.pointer (some ⟨b55, 0, none⟩)) (r_field0 rfl ek kk) ?_
    refine Fl (.int .i64 x45.id) (sgS (blk_cell (j := 0) x68 kk) nb64) ?_
    refine W.sn (fun b => .slice (some ⟨b, 0, none⟩) 1 1) #[.int .i64 x45.id] 3 s72 rfl kk rfl (fun _ => by kernel_rfl) (fun b73 w74 hb75 k76 x77 s78 => ?_)
    apply F.nx
    have lo79 : w.heap.size ≤ b73 := Nl ((Sb c71 s72 (fun kq e => (World.ownsRow.lt ho70 kq e).1))).size (Nat.le_of_eq hb75)
    have ho84 := own_kept ho70 k76
    refine W.sap (e := 3) (size := 1) (base := w.heap.size) (m := 1) (v := .slice A0_8 n0_8 c0_8) (c := 1) s78 rfl rfl rfl rfl kk kk kk ho84 x77 kk kk (by omega) (by omega) (by have := ((Sb c71 s78 (fun kq e => (World.ownsRow.lt ho70 kq e).1))).size; omega) (.inl rfl) (fun g85 cap86 w87 ho88 hg89 hat90 hlt91 s92 => ?_)
    apply F.nx
    have nb93 : Nb b2 (.slice (some ⟨g85, 0, none⟩) (n0_8 + 1) cap86) := nb_app nb0_8_b2 (Nat.lt_of_lt_of_le (blk_lt x6) (s78).size) hat90
    have nb94 : Nb b29 (.slice (some ⟨g85, 0, none⟩) (n0_8 + 1) cap86) := nb_app nb0_8_b29 (Nat.lt_of_lt_of_le (blk_lt x33) (s78).size) hat90
    have ho88 := own_snoc ho88
    refine Fa (.slice (some ⟨g85, 0, none⟩) (n0_8 + 1) cap86) ?_
    apply F.es
    have x6 := Sk s92 x6 nb0_8_b2
    have x33 := Sk s92 x33 nb0_8_b29
    have c97 := (Sb c71 s92 (fun kq e => (World.ownsRow.lt ho70 kq e).1))
    apply h10
    refine Rq 2 ?_
    refine Fq (.int .i64 ((j + 1 : Nat) : Int)) (r_add (m := (j : Int)) (n := 1) (z := ((j + 1 : Nat) : Int)) rfl ek ek (by omega) (by omega)) ?_
    refine Fv (.int .i64 ((j + 1 : Nat) : Int)) ?_
    apply F.es
    exact h7 _ _ _ (by omega : (n2 - (j + 1)) < _) ⟨j + 1, (some ⟨g85, 0, none⟩), (n0_8 + 1), cap86, Kn.of, rfl, (by omega), (by omega), x6, x33, (by rw [allIds_take hx46]; exact ho88), nb93, nb94, c97⟩
   refine Fq (.bool false) (r_lss (m := (j : Int)) (n := (n2 : Int)) rfl ek ek (df q43)) ?_
   apply F.es
   apply h8
   refine wk fun K12 h12 => ?_
   refine wp_cond_false ek ?_
   refine wp_exit ?_
   apply h5
   refine wk fun K13 h13 => ?_
   refine wk fun K14 h14 => ?_
   refine Rq 4 ?_
   refine Fq (.pointer (some ⟨b2, 1, none⟩)) (r_field (k := 1) rfl ek kk) ?_
   refine Fl (.slice A n c) (eqS (blk_cell (j := 1) x6 kk)) ?_
   refine Fq (.int .i64 (n : Int)) (r_len (A := A) (n := n) (c := c) rfl ek kk) ?_
   refine Fv (.int .i64 0) ?_
   apply F.es
   apply h14
   refine wp_block ?_
   have ho98 := own_empty (base := w.heap.size) (size := 1) x33 lo35
   replace ho98 : World.ownsRow _ _ _ _ _ _ (intsV []) := ho98
   have nr99 : NbR (.slice (some ⟨b29, 0, none⟩) 0 0) (.slice A0_8 n0_8 c0_8) := nbr_new nb0_8_b29
   have nb100 : Nb b2 (.slice (some ⟨b29, 0, none⟩) 0 0) := nb_new ne36
   refine loopK (fun am1 aa1 wl1 => ∃ (i : Nat) (A1_9 : Option Addr) (n1_9 : Nat) (c1_9 : Nat) , Kn aa1 [(0, .agg #[.int .i64 m, .slice A n c]), (1, .slice A2 n2 c2), (2, .int .i64 s), (3, .pointer (some ⟨b2, 0, none⟩)), (6, .slice none 0 0), (7, .bool false), (8, .slice A0_8 n0_8 c0_8), (9, .slice A1_9 n1_9 c1_9), (23, .bool false), (26, .slice A2 n2 c2), (27, .int .i64 (n2 : Int)), (28, .int .i64 (j : Int)), (29, .bool false), (39, .slice A n c), (40, .int .i64 (n : Int)), (41, .int .i64 (i : Int))] 60 ∧ (am1 = n - i) ∧ (i ≤ n) ∧ (n1_9 ≤ i) ∧ (wl1.heap[b2]? = some (.cells #[.int .i64 m, .slice A n c] 26 (0, 0))) ∧ (wl1.ownsRow w.heap.size 3 1 (.slice A0_8 n0_8 c0_8) n0_8 (intsV (allIds vs))) ∧ (wl1.ownsRow w.heap.size 3 1 (.slice A1_9 n1_9 c1_9) n1_9 (intsV (hopeL ps vs s (ps.take i)))) ∧ (Nb b2 (.slice A1_9 n1_9 c1_9)) ∧ (NbR (.slice A1_9 n1_9 c1_9) (.slice A0_8 n0_8 c0_8)) ∧ (Below w.heap.size w wl1)) (n - 0) ?_ ?_
   ·exact ⟨0, (some ⟨b29, 0, none⟩), 0, 0, Kn.of, rfl, (Nat.zero_le _), (Nat.zero_le _), x6, (by rw [show allIds vs = allIds (vs.take j) from by rw [List.take_of_length_le (by omega)]]; exact ho0_8), ho98, nb100, nr99, c42⟩
   rintro am1 aa1 wl1 K15 h15 ⟨i, A1_9, n1_9, c1_9, ⟨U1, rfl⟩, rfl, hi, hb9, x6, ho1_8, ho1_9, nb1_9_b2, nr1_1_0, c101⟩
   refine wk fun K16 h16 => ?_
   refine Rq 1 ?_
   by_cases q102 : ((i : Int) : Int) < ((n : Int) : Int)
   ·refine Fq (.bool true) (r_lss (m := (i : Int)) (n := (n : Int)) rfl ek ek (dt q102)) ?_
    apply F.es
    apply h16
    refine wk fun K17 h17 => ?_
    refine wp_cond_true ek ?_
    apply wp_skip
    apply h17
    refine wk fun K18 h18 => ?_
    refine wp_block ?_
    refine wk fun K19 h19 => ?_
    refine W.region_plain (row := none) [(0, false), (1, false), (2, true), (3, true)] kk ?_
    have s103 := SG.self wl1 none
    obtain ⟨x104, hx105⟩ := get_of (zs := ps) (k := i) (by have := hl; omega)
    have hfx := findL_pos (List.mem_of_getElem? hx105)
    obtain ⟨b106, o107, hA108, hb109, hc110, hc111, hc112, hc113⟩ := Rd.elPipe ha hx105
    refine Fq (.pointer (some ⟨b106, o107 + i * 4, none⟩)) (r_idx (n := n) (c := c) (k := i) rfl ek hA108 kk kk (by have := hl; omega)) ?_
    refine Fq (.agg #[.int .i64 x104.id, .int .i64 x104.fr, .int .i64 x104.to, .int .i64 x104.sz]) (r_load4 rfl ek kk kk (sgS (later c101 hc110) (by simp)) (sgS (later c101 hc111) (by simp)) (sgS (later c101 hc112) (by simp)) (sgS (later c101 hc113) (by simp))) ?_
    refine W.sn (fun b => .pointer (some ⟨b, 0, none⟩)) #[.int .i64 0, .int .i64 0, .int .i64 0, .int .i64 0] 51 s103 rfl kk rfl (fun _ => by kernel_rfl) (fun b114 w115 hb116 k117 x118 s119 => ?_)
    apply F.nx
    have lo120 : w.heap.size ≤ b114 := Nl ((Sb c101 s103 nkk)).size (Nat.le_of_eq hb116)
    have nb122 : Nb b114 (.slice A0_8 n0_8 c0_8) := nb_hi ho1_8 (Nat.le_of_eq hb116)
    have nb123 : Nb b114 (.slice A1_9 n1_9 c1_9) := nb_hi ho1_9 (Nat.le_of_eq hb116)
    have ho124 := own_kept ho1_8 k117
    have ho125 := own_kept ho1_9 k117
    refine W.ss (v := .agg #[.int .i64 x104.id, .int .i64 x104.fr, .int .i64 x104.to, .int .i64 x104.sz]) (j := 0) (news := [.int .i64 x104.id, .int .i64 x104.fr, .int .i64 x104.to, .int .i64 x104.sz]) (cs' := #[.int .i64 x104.id, .int .i64 x104.fr, .int .i64 x104.to, .int .i64 x104.sz]) s119 rfl kk rfl rfl kk kk x118 kk kk (by simp) kk kk (.inr (Nl (s103).size (Nat.le_of_eq hb116))) (fun w126 g127 x128 s129 => ?_)
    have ho130 := own_grown ho124 g127 (fun j e1 e2 => by cases e2; exact nb122 e1.symm)
    have ho131 := own_grown ho125 g127 (fun j e1 e2 => by cases e2; exact nb123 e1.symm)
    apply F.es
    have x6 := Sk s129 x6 onn
    have c132 := (Sb c101 s129 nkk)
    apply h19
    refine wk fun K20 h20 => ?_
    refine W.region_plain (row := none) [(0, false), (1, false), (2, false), (3, false), (4, false), (5, false), (6, true), (7, false)] kk ?_
    have s133 := SG.self w126 none
    refine Fq (.agg #[.int .i64 m, .slice A n c]) (r_load2 rfl ek kk kk (sgS (blk_cell (j := 0) x6 kk) onn) (sgS (blk_cell (j := 1) x6 kk) onn)) ?_
    refine Fv (.slice A2 n2 c2) ?_
    refine Fv (.int .i64 s) ?_
    refine Fq (.pointer (some ⟨b114, 0, none⟩)) (r_field0 rfl ek kk) ?_
    refine Fl (.int .i64 x104.id) (sgS (blk_cell (j := 0) x128 kk) onn) ?_
    refine Fv (.slice A0_8 n0_8 c0_8) ?_
    refine Fc [.agg #[.int .i64 m, .slice A n c], .slice A2 n2 c2, .int .i64 s, .int .i64 x104.id, .slice A0_8 n0_8 c0_8] (isolates_any m A n c ps A2 n2 c2 vs s x104.id A0_8 n0_8 c0_8 (allIds vs) _ (Rk ha (Sb c132 s133 nkk)) (Rk hb (Sb c132 s133 nkk)) (by omega) (by omega) hfm2 hv9 hs9 hfx (own_rd ho130) (by omega)) ?_
    rintro e w135 ⟨rfl, b134⟩
    have s136 := SG.of_below s133 b134
    refine ⟨_, rfl, s136, ?_⟩
    apply F.nx
    have ho137 := own_kept ho130 b134
    have ho138 := own_kept ho131 b134
    rcases Bool.eq_false_or_eq_true (cutB ps vs s x104.id (allIds vs)) with q139 | q139
    ·rw [q139]
     refine Fq (.bool false) (r_not (b := true) rfl ek rfl) ?_
     apply F.es
     have x6 := Sk s136 x6 onn
     have x128 := Sk s136 x128 onn
     have c140 := (Sb c132 s136 nkk)
     apply h20
     refine wp_cond_false ek ?_
     apply wp_skip
     apply h18
     refine Rq 2 ?_
     refine Fq (.int .i64 ((i + 1 : Nat) : Int)) (r_add (m := (i : Int)) (n := 1) (z := ((i + 1 : Nat) : Int)) rfl ek ek (by omega) (by omega)) ?_
     refine Fv (.int .i64 ((i + 1 : Nat) : Int)) ?_
     apply F.es
     exact h15 _ _ _ (by omega : (n - (i + 1)) < _) ⟨i + 1, A1_9, n1_9, c1_9, Kn.of, rfl, (by omega), (by omega), x6, ho137, (by rw [hopeL_no hx105 ((cut_all (m := m) s x104.id).symm.trans q139)]; exact ho138), nb1_9_b2, nr1_1_0, c140⟩
    rw [q139]
    refine Fq (.bool true) (r_not (b := false) rfl ek rfl) ?_
    apply F.es
    have x6 := Sk s136 x6 onn
    have x128 := Sk s136 x128 onn
    have c141 := (Sb c132 s136 nkk)
    apply h20
    refine wp_cond_true ek ?_
    refine W.region_plain (row := (Value.ownBlock (.slice A1_9 n1_9 c1_9))) [(0, false), (1, false), (2, false), (3, true), (4, true), (5, false)] kk ?_
    have s142 := SG.self w135 (Value.ownBlock (.slice A1_9 n1_9 c1_9))
    refine Fv (.slice A1_9 n1_9 c1_9) ?_
    refine Fq (.pointer (some ⟨b114, 0, none⟩)) (r_field0 rfl ek kk) ?_
    refine Fl (.int .i64 x104.id) (sgS (blk_cell (j := 0) x128 kk) nb123) ?_
    refine W.sn (fun b => .slice (some ⟨b, 0, none⟩) 1 1) #[.int .i64 x104.id] 3 s142 rfl kk rfl (fun _ => by kernel_rfl) (fun b143 w144 hb145 k146 x147 s148 => ?_)
    apply F.nx
    have lo149 : w.heap.size ≤ b143 := Nl ((Sb c141 s142 (fun kq e => (World.ownsRow.lt ho138 kq e).1))).size (Nat.le_of_eq hb145)
    have ho154 := own_kept ho137 k146
    have ho155 := own_kept ho138 k146
    refine W.sap (e := 3) (size := 1) (base := w.heap.size) (m := 1) (v := .slice A1_9 n1_9 c1_9) (c := 1) s148 rfl rfl rfl rfl kk kk kk ho155 x147 kk kk (by omega) (by omega) (by have := ((Sb c141 s148 (fun kq e => (World.ownsRow.lt ho138 kq e).1))).size; omega) (.inl rfl) (fun g156 cap157 w158 ho159 hg160 hat161 hlt162 s163 => ?_)
    apply F.nx
    have nb164 : Nb b2 (.slice (some ⟨g156, 0, none⟩) (n1_9 + 1) cap157) := nb_app nb1_9_b2 (Nat.lt_of_lt_of_le (blk_lt x6) (s148).size) hat161
    have ho159 := own_snoc ho159
    have nr167 : NbR (.slice (some ⟨g156, 0, none⟩) (n1_9 + 1) cap157) (.slice A0_8 n0_8 c0_8) := nbr_app nr1_1_0 (fun j h => (World.ownsRow.lt ho154 j h).2) (hat3 (v := .slice A1_9 n1_9 c1_9) hat161)
    have ho168 := own_grown ho154 hg160 (NbR.symm nr1_1_0)
    refine Fa (.slice (some ⟨g156, 0, none⟩) (n1_9 + 1) cap157) ?_
    apply F.es
    have x6 := Sk s163 x6 nb1_9_b2
    have c169 := (Sb c141 s163 (fun kq e => (World.ownsRow.lt ho138 kq e).1))
    apply h18
    refine Rq 2 ?_
    refine Fq (.int .i64 ((i + 1 : Nat) : Int)) (r_add (m := (i : Int)) (n := 1) (z := ((i + 1 : Nat) : Int)) rfl ek ek (by omega) (by omega)) ?_
    refine Fv (.int .i64 ((i + 1 : Nat) : Int)) ?_
    apply F.es
    exact h15 _ _ _ (by omega : (n - (i + 1)) < _) ⟨i + 1, (some ⟨g156, 0, none⟩), (n1_9 + 1), cap157, Kn.of, rfl, (by omega), (by omega), x6, ho168, (by rw [hopeL_yes hx105 ((cut_all (m := m) s x104.id).symm.trans q139)]; exact ho159), nb164, nr167, c169⟩
   refine Fq (.bool false) (r_lss (m := (i : Int)) (n := (n : Int)) rfl ek ek (df q102)) ?_
   apply F.es
   apply h16
   refine wk fun K21 h21 => ?_
   refine wp_cond_false ek ?_
   refine wp_exit ?_
   apply h13
   refine wk fun K22 h22 => ?_
   refine Rq 3 ?_
   refine Fv (.slice A1_9 n1_9 c1_9) ?_
   refine Fa (.slice A1_9 n1_9 c1_9) ?_
   refine Fa (.bool true) ?_
   apply F.es
   apply h22
   refine wp_ret ?_
   try simp only [Exit.then]
   refine ret2 (v := .slice A1_9 n1_9 c1_9) (x := .bool true) rfl kk kk ?_
   have e8 : HopelessPipes_v1 m ps vs s = true := by unfold HopelessPipes_v1; rw [q14, q18]; try rfl
   exact fin_ints  ho1_9 (by unfold HopelessPipes_v0; rw [if_pos e8, List.take_of_length_le (by omega)]) e8.symm c101
  rw [q18]
  refine Fq (.bool true) (r_not (b := false) rfl ek rfl) ?_
  refine Fq (.bool true) (r_pick (b := false) rfl ek ek) ?_
  apply F.es
  have c170 := (Sb c9 s17 nkk)
  apply h3
  refine wp_cond_true ek ?_
  refine wk fun K23 h23 => ?_
  refine Rq 2 ?_
  refine Fa (.slice none 0 0) ?_
  refine Fa (.bool false) ?_
  apply F.es
  apply h23
  refine wp_ret ?_
  try simp only [Exit.then]
  refine ret2 (v := .slice none 0 0) (x := .bool false) rfl kk kk ?_
  have e8 : HopelessPipes_v1 m ps vs s = false := by unfold HopelessPipes_v1; rw [q18, Bool.and_false]
  exact fin_ints (zs := []) (World.ownsRow_nil _ _ _ _) (by unfold HopelessPipes_v0; rw [if_neg (by rw [e8]; simp)]) e8.symm c170
 rw [q14]
 refine Fq (.bool true) (r_not (b := false) rfl ek rfl) ?_
 refine Fv (.bool true) ?_
 refine Fs s13 ?_
 refine Fs s13 ?_
 refine Fs s13 ?_
 refine Fs s13 ?_
 refine Fq (.bool true) (r_pick (b := true) rfl ek ek) ?_
 apply F.es
 have c171 := (Sb c9 s13 nkk)
 apply h3
 refine wp_cond_true ek ?_
 refine wk fun K24 h24 => ?_
 refine Rq 2 ?_
 refine Fa (.slice none 0 0) ?_
 refine Fa (.bool false) ?_
 apply F.es
 apply h24
 refine wp_ret ?_
 try simp only [Exit.then]
 refine ret2 (v := .slice none 0 0) (x := .bool false) rfl kk kk ?_
 have e8 : HopelessPipes_v1 m ps vs s = false := by unfold HopelessPipes_v1; rw [q14]; try rfl
 exact fin_ints (zs := []) (World.ownsRow_nil _ _ _ _) (by unfold HopelessPipes_v0; rw [if_neg (by rw [e8]; simp)]) e8.symm c171
set_option maxRecDepth 100000 in
set_option maxHeartbeats 8000000 in
theorem HopelessPipes_spec (m : Int) (A : Option Addr) (n c : Nat) (ps : List Pp) (A2 : Option Addr) (n2 c2 : Nat) (vs : List Vv) (s : Int) (w : World) (ha : Rd w 4 A n (pipesV ps)) (hb : Rd w 4 A2 n2 (valvesV vs)) (hn : n ≤ 1048576) (hn2 : n2 ≤ 1048576) (hfm : Fm A n c) (hfm2 : Fm A2 n2 c2) :
    Calls Try.prog 55 #[.agg #[.int .i64 m, .slice A n c], .slice A2 n2 c2, .int .i64 s] w fun e w' => ∃ A' d, e = .returned (.tuple #[.slice A' (HopelessPipes_v0 m ps vs s).length d, .bool (HopelessPipes_v1 m ps vs s)]) ∧ Rd w' 1 A' (HopelessPipes_v0 m ps vs s).length (intsV (HopelessPipes_v0 m ps vs s)) ∧ Below w.heap.size w w' := by
 have hl := rd_pipes_len ha
 have hl2 := rd_valves_len hb
 go_enter Try.func55, Try.ntmps55
 refine F.begin 52 [(0, .agg #[.int .i64 m, .slice A n c]), (1, .slice A2 n2 c2), (2, .int .i64 s)] (fun U0 => ?_)
 refine wk fun K1 h1 => ?_
 refine W.region_plain (row := none) [(0, true), (1, false), (2, false)] kk ?_
 have s1 := SG.self w none
 refine W.sn (fun b => .pointer (some ⟨b, 0, none⟩)) #[.int .i64 m, .slice A n c] 26 s1 rfl kk rfl (fun _ => by kernel_rfl) (fun b2 w3 hb4 k5 x6 s7 => ?_)
 apply F.nx
 have lo8 : w.heap.size ≤ b2 := Nl ((Sb (Below.refl _ _) s1 nkk)).size (Nat.le_of_eq hb4)
 refine Fa (.slice none 0 0) ?_
 refine Fa (.bool false) ?_
 apply F.es
 have c9 := (Sb (Below.refl _ _) s7 nkk)
 apply h1
 refine wk fun K2 h2 => ?_
 refine W.region_plain (row := none) [(0, true), (1, false)] kk ?_
 have s10 := SG.self w3 none
 refine W.sn (fun b => .slice (some ⟨b, 0, none⟩) 0 0) #[] 3 s10 rfl kk rfl (fun _ => by kernel_rfl) (fun b11 w12 hb13 k14 x15 s16 => ?_)
 apply F.nx
 have lo17 : w.heap.size ≤ b11 := Nl ((Sb c9 s10 nkk)).size (Nat.le_of_eq hb13)
 have ne18 : b2 ≠ b11 := Nat.ne_of_lt (Nat.lt_of_lt_of_eq (Nat.lt_of_lt_of_le (blk_lt x6) (s10).size) hb13)
 refine Fa (.slice (some ⟨b11, 0, none⟩) 0 0) ?_
 apply F.es
 have x6 := Sk s16 x6 onn
 have c19 := (Sb c9 s16 nkk)
 apply h2
 refine wk fun K3 h3 => ?_
 refine wk fun K4 h4 => ?_
 refine W.region_plain (row := none) [(0, false), (1, false), (2, true), (3, false), (4, false), (5, false), (6, false), (7, true), (8, false), (9, false)] kk ?_
 have s20 := SG.self w12 none
 refine Fq (.agg #[.int .i64 m, .slice A n c]) (r_load2 rfl ek kk kk (sgS (blk_cell (j := 0) x6 kk) onn) (sgS (blk_cell (j := 1) x6 kk) onn)) ?_
 refine Fv (.slice A2 n2 c2) ?_
 refine Fc [.agg #[.int .i64 m, .slice A n c], .slice A2 n2 c2] (l4Good_any m A n c ps A2 n2 c2 vs _ (Rk ha (Sb c19 s20 nkk)) (Rk hb (Sb c19 s20 nkk)) (by omega) (by omega)) ?_
 rintro e w22 ⟨rfl, b21⟩
 have s23 := SG.of_below s20 b21
 refine ⟨_, rfl, s23, ?_⟩
 apply F.nx
 rcases Bool.eq_false_or_eq_true (goodV m ps vs) with q24 | q24
 ·rw [q24]
  have hv9 := goodV_of q24
  have hg := hv9.net
  have hgl := hg.lo
  have hgh := hg.hi
  have hp := hg.pipesIn
  have hlen10 := hg.len
  have hu := hv9.uniq
  have hvl := hv9.len
  refine Fq (.bool false) (r_not (b := true) rfl ek rfl) ?_
  refine Fv (.bool false) ?_
  refine Fq (.agg #[.int .i64 m, .slice A n c]) (r_load2 rfl ek kk kk (sgS (blk_cell (j := 0) x6 kk) onn) (sgS (blk_cell (j := 1) x6 kk) onn)) ?_
  refine Fv (.int .i64 s) ?_
  refine Fc [.agg #[.int .i64 m, .slice A n c], .int .i64 s] (l2Node_any m A n c ps s _ (Rk ha (Sb c19 s23 nkk)) (by omega)) ?_
  rintro e w26 ⟨rfl, b25⟩
  have s27 := SG.of_below s23 b25
  refine ⟨_, rfl, s27, ?_⟩
  apply F.nx
  rcases Bool.eq_false_or_eq_true (goodN m ps && inB s 1 m) with q28 | q28
  ·rw [q28]
   have q29 : inB s 1 m = true := (Bool.and_eq_true_iff.1 q28).2
   have hs9 := inB_iff.1 q29
   refine Fq (.bool false) (r_not (b := true) rfl ek rfl) ?_
   refine Fq (.bool false) (r_pick (b := false) rfl ek ek) ?_
   apply F.es
   have x6 := Sk s27 x6 onn
   have x15 := Sk s27 x15 onn
   have c30 := (Sb c19 s27 nkk)
   apply h4
   refine wp_cond_false ek ?_
   apply wp_skip
   apply h3
   refine wk fun K5 h5 => ?_
   refine wk fun K6 h6 => ?_
   refine Rq 1 ?_
   refine Fa (.int .i64 0) ?_
   apply F.es
   apply h6
   refine wp_block ?_
   have ho31 := own_empty (base := w.heap.size) (size := 1) x15 lo17
   replace ho31 : World.ownsRow _ _ _ _ _ _ (intsV []) := ho31
   have nb32 : Nb b2 (.slice (some ⟨b11, 0, none⟩) 0 0) := nb_new ne18
   refine loopK (fun am0 aa0 wl0 => ∃ (i : Nat) (A0_8 : Option Addr) (n0_8 : Nat) (c0_8 : Nat) , Kn aa0 [(0, .agg #[.int .i64 m, .slice A n c]), (1, .slice A2 n2 c2), (2, .int .i64 s), (3, .pointer (some ⟨b2, 0, none⟩)), (6, .slice none 0 0), (7, .bool false), (8, .slice A0_8 n0_8 c0_8), (9, .int .i64 (i : Int)), (20, .bool false)] 52 ∧ (am0 = n - i) ∧ (i ≤ n) ∧ (n0_8 ≤ i) ∧ (wl0.heap[b2]? = some (.cells #[.int .i64 m, .slice A n c] 26 (0, 0))) ∧ (wl0.ownsRow w.heap.size 3 1 (.slice A0_8 n0_8 c0_8) n0_8 (intsV (hopeL ps vs s (ps.take i)))) ∧ (Nb b2 (.slice A0_8 n0_8 c0_8)) ∧ (Below w.heap.size w wl0)) (n - 0) ?_ ?_
   ·exact ⟨0, (some ⟨b11, 0, none⟩), 0, 0, Kn.of, rfl, (Nat.zero_le _), (Nat.zero_le _), x6, ho31, nb32, c30⟩
   rintro am0 aa0 wl0 K7 h7 ⟨i, A0_8, n0_8, c0_8, ⟨U0, rfl⟩, rfl, hi, hb8, x6, ho0_8, nb0_8_b2, c33⟩
   refine wk fun K8 h8 => ?_
   refine wk fun K9 h9 => ?_
   refine Rq 5 ?_
   refine Fv (.int .i64 (i : Int)) ?_
   refine Fq (.pointer (some ⟨b2, 1, none⟩)) (r_field (k := 1) rfl ek kk) ?_
   refine Fl (.slice A n c) (eqS (blk_cell (j := 1) x6 kk)) ?_
   refine Fq (.int .i64 (n : Int)) (r_len (A := A) (n := n) (c := c) rfl ek kk) ?_
   by_cases q34 : ((i : Int) : Int) < ((n : Int) : Int)
   ·refine Fq (.bool true) (r_lss (m := (i : Int)) (n := (n : Int)) rfl ek ek (dt q34)) ?_
    apply F.es
    apply h9
    refine wp_cond_true ek ?_
    apply wp_skip
    apply h8
    refine wk fun K10 h10 => ?_
    refine wp_block ?_
    refine wk fun K11 h11 => ?_
    refine W.region_sch (row := none) (Sch.of [(0, false), (1, false), (2, false), (3, false), (4, false), (5, false), (6, false), (7, false), (8, false), (9, false), (10, true), (11, true), (12, false)]) kk kk (fun _ d _ _ _ h => by cases d <;> exact h) kk (fun w35 e36 s37 => ?_)
    have ho38 := own_heap ho0_8 e36
    refine Fq (.agg #[.int .i64 m, .slice A n c]) (r_load2 rfl ek kk kk (sgS (blk_cell (j := 0) x6 kk) onn) (sgS (blk_cell (j := 1) x6 kk) onn)) ?_
    refine Fv (.slice A2 n2 c2) ?_
    refine Fv (.int .i64 s) ?_
    refine Fq (.pointer (some ⟨b2, 1, none⟩)) (r_field (k := 1) rfl ek kk) ?_
    refine Fl (.slice A n c) (sgS (blk_cell (j := 1) x6 kk) onn) ?_
    refine Fv (.int .i64 (i : Int)) ?_
    obtain ⟨x39, hx40⟩ := get_of (zs := ps) (k := i) (by have := hl; omega)
    have hfx := findL_pos (List.mem_of_getElem? hx40)
    obtain ⟨b41, o42, hA43, hb44, hc45, hc46, hc47, hc48⟩ := Rd.elPipe ha hx40
    refine Fq (.pointer (some ⟨b41, o42 + i * 4, none⟩)) (r_idx (n := n) (c := c) (k := i) rfl ek hA43 kk kk (by have := hl; omega)) ?_
    refine Fq (.pointer (some ⟨b41, o42 + i * 4, none⟩)) (r_field0 rfl ek kk) ?_
    refine Fl (.int .i64 x39.id) (sgS (later c33 hc45) (by simp)) ?_
    refine Fv (.slice A2 n2 c2) ?_
    have lr57 := World.ownsRow.lt ho38
    refine Fc [.slice A2 n2 c2] (l5Open_any A2 n2 c2 vs _ (Rk hb (Sb c33 s37 nkk)) (by omega)) ?_
    rintro e w59 ⟨A49, n50, c51, rfl, ho52, b58⟩
    have s60 := SG.of_below s37 b58
    refine ⟨_, rfl, s60, ?_⟩
    apply F.nx
    have ho61 := own_kept ho38 b58
    have rd53 := own_rd ho52
    have hl54 := rd_ints_len rd53
    have := openIds_len vs
    refine Fc [.agg #[.int .i64 m, .slice A n c], .slice A2 n2 c2, .int .i64 s, .int .i64 x39.id, .slice A49 n50 c51] (l5Cut_any m A n c ps A2 n2 c2 vs s x39.id A49 n50 c51 (openIds vs) _ (Rk ha (Sb c33 s60 nkk)) (Rk hb (Sb c33 s60 nkk)) (by omega) (by omega) hfm2 hv9 hs9 hfx rd53 (by omega)) ?_
    rintro e w65 ⟨rfl, b64⟩
    have s66 := SG.of_below s60 b64
    refine ⟨_, rfl, s66, ?_⟩
    apply F.nx
    have ho67 := own_kept ho61 b64
    rcases Bool.eq_false_or_eq_true (cutB ps vs s x39.id (openIds vs)) with q69 | q69
    ·rw [q69]
     refine Fq (.bool false) (r_not (b := true) rfl ek rfl) ?_
     apply F.es
     have x6 := Sk s66 x6 onn
     have c70 := (Sb c33 s66 nkk)
     apply h11
     refine wp_cond_false ek ?_
     apply wp_skip
     apply h10
     refine Rq 3 ?_
     refine Fv (.int .i64 (i : Int)) ?_
     refine Fq (.int .i64 ((i + 1 : Nat) : Int)) (r_add (m := (i : Int)) (n := 1) (z := ((i + 1 : Nat) : Int)) rfl ek ek (by omega) (by omega)) ?_
     refine Fa (.int .i64 ((i + 1 : Nat) : Int)) ?_
     apply F.es
     exact h7 _ _ _ (by omega : (n - (i + 1)) < _) ⟨i + 1, A0_8, n0_8, c0_8, Kn.of, rfl, (by omega), (by omega), x6, (by rw [hopeL_no hx40 q69]; exact ho67), nb0_8_b2, c70⟩
    rw [q69]
    refine Fq (.bool true) (r_not (b := false) rfl ek rfl) ?_
    apply F.es
    have x6 := Sk s66 x6 onn
    have c71 := (Sb c33 s66 nkk)
    apply h11
    refine wp_cond_true ek ?_
    refine W.region_plain (row := (Value.ownBlock (.slice A0_8 n0_8 c0_8))) [(0, false), (1, false), (2, false), (3, false), (4, false), (5, false), (6, false), (7, true), (8, true), (9, false)] kk ?_
    have s72 := SG.self w65 (Value.ownBlock (.slice A0_8 n0_8 c0_8))
    refine Fv (.slice A0_8 n0_8 c0_8) ?_
    refine Fq (.pointer (some ⟨b2, 1, none⟩)) (r_field (k := 1) rfl ek kk) ?_
    refine Fl (.slice A n c) (sgS (blk_cell (j := 1) x6 kk) nb0_8_b2) ?_
    refine Fv (.int .i64 (i : Int)) ?_
    refine Fq (.pointer (some ⟨b41, o42 + i * 4, none⟩)) (r_idx (n := n) (c := c) (k := i) rfl ek hA43 kk kk (by have := hl; omega)) ?_
    refine Fq (.pointer (some ⟨b41, o42 + i * 4, none⟩)) (r_field0 rfl ek kk) ?_
    refine Fl (.int .i64 x39.id) (sgS (later c71 hc45) (nb_lo ho67 hb44)) ?_
    refine W.sn (fun b => .slice (some ⟨b, 0, none⟩) 1 1) #[.int .i64 x39.id] 3 s72 rfl kk rfl (fun _ => by kernel_rfl) (fun b73 w74 hb75 k76 x77 s78 => ?_)
    apply F.nx
    have lo79 : w.heap.size ≤ b73 := Nl ((Sb c71 s72 (fun kq e => (World.ownsRow.lt ho67 kq e).1))).size (Nat.le_of_eq hb75)
    have ho83 := own_kept ho67 k76
    refine W.sap (e := 3) (size := 1) (base := w.heap.size) (m := 1) (v := .slice A0_8 n0_8 c0_8) (c := 1) s78 rfl rfl rfl rfl kk kk kk ho83 x77 kk kk (by omega) (by omega) (by have := ((Sb c71 s78 (fun kq e => (World.ownsRow.lt ho67 kq e).1))).size; omega) (.inl rfl) (fun g84 cap85 w86 ho87 hg88 hat89 hlt90 s91 => ?_)
    apply F.nx
    have nb92 : Nb b2 (.slice (some ⟨g84, 0, none⟩) (n0_8 + 1) cap85) := nb_app nb0_8_b2 (Nat.lt_of_lt_of_le (blk_lt x6) (s78).size) hat89
    have ho87 := own_snoc ho87
    refine Fa (.slice (some ⟨g84, 0, none⟩) (n0_8 + 1) cap85) ?_
    apply F.es
    have x6 := Sk s91 x6 nb0_8_b2
    have c95 := (Sb c71 s91 (fun kq e => (World.ownsRow.lt ho67 kq e).1))
    apply h10
    refine Rq 3 ?_
    refine Fv (.int .i64 (i : Int)) ?_
    refine Fq (.int .i64 ((i + 1 : Nat) : Int)) (r_add (m := (i : Int)) (n := 1) (z := ((i + 1 : Nat) : Int)) rfl ek ek (by omega) (by omega)) ?_
    refine Fa (.int .i64 ((i + 1 : Nat) : Int)) ?_
    apply F.es
    exact h7 _ _ _ (by omega : (n - (i + 1)) < _) ⟨i + 1, (some ⟨g84, 0, none⟩), (n0_8 + 1), cap85, Kn.of, rfl, (by omega), (by omega), x6, (by rw [hopeL_yes hx40 q69]; exact ho87), nb92, c95⟩
   refine Fq (.bool false) (r_lss (m := (i : Int)) (n := (n : Int)) rfl ek ek (df q34)) ?_
   apply F.es
   apply h9
   refine wp_cond_false ek ?_
   refine wp_exit ?_
   apply h5
   refine wk fun K12 h12 => ?_
   refine Rq 3 ?_
   refine Fv (.slice A0_8 n0_8 c0_8) ?_
   refine Fa (.slice A0_8 n0_8 c0_8) ?_
   refine Fa (.bool true) ?_
   apply F.es
   apply h12
   refine wp_ret ?_
   try simp only [Exit.then]
   refine ret2 (v := .slice A0_8 n0_8 c0_8) (x := .bool true) rfl kk kk ?_
   have e8 : HopelessPipes_v1 m ps vs s = true := by unfold HopelessPipes_v1; rw [q24, q29]; try rfl
   exact fin_rd  (own_rd ho0_8) (by unfold HopelessPipes_v0; rw [if_pos e8, List.take_of_length_le (by omega)]) e8.symm c33
  rw [q28]
  have q97 : inB s 1 m = false := by have h9 := q28; rw [hv9.good, Bool.true_and] at h9; exact h9
  refine Fq (.bool true) (r_not (b := false) rfl ek rfl) ?_
  refine Fq (.bool true) (r_pick (b := false) rfl ek ek) ?_
  apply F.es
  have x15 := Sk s27 x15 onn
  have c98 := (Sb c19 s27 nkk)
  apply h4
  refine wp_cond_true ek ?_
  refine wk fun K13 h13 => ?_
  refine Rq 3 ?_
  refine Fv (.slice (some ⟨b11, 0, none⟩) 0 0) ?_
  refine Fa (.slice (some ⟨b11, 0, none⟩) 0 0) ?_
  refine Fa (.bool false) ?_
  apply F.es
  apply h13
  refine wp_ret ?_
  try simp only [Exit.then]
  refine ret2 (v := .slice (some ⟨b11, 0, none⟩) 0 0) (x := .bool false) rfl kk kk ?_
  have e8 : HopelessPipes_v1 m ps vs s = false := by unfold HopelessPipes_v1; rw [q97, Bool.and_false]
  have ho99 := own_empty (base := w.heap.size) (size := 1) x15 lo17
  replace ho99 : World.ownsRow _ _ _ _ _ _ (intsV []) := ho99
  exact fin_rd (zs := []) (own_rd ho99) (by unfold HopelessPipes_v0; rw [if_neg (by rw [e8]; simp)]) e8.symm c98
 rw [q24]
 refine Fq (.bool true) (r_not (b := false) rfl ek rfl) ?_
 refine Fv (.bool true) ?_
 refine Fs s23 ?_
 refine Fs s23 ?_
 refine Fs s23 ?_
 refine Fs s23 ?_
 refine Fq (.bool true) (r_pick (b := true) rfl ek ek) ?_
 apply F.es
 have x15 := Sk s23 x15 onn
 have c101 := (Sb c19 s23 nkk)
 apply h4
 refine wp_cond_true ek ?_
 refine wk fun K14 h14 => ?_
 refine Rq 3 ?_
 refine Fv (.slice (some ⟨b11, 0, none⟩) 0 0) ?_
 refine Fa (.slice (some ⟨b11, 0, none⟩) 0 0) ?_
 refine Fa (.bool false) ?_
 apply F.es
 apply h14
 refine wp_ret ?_
 try simp only [Exit.then]
 refine ret2 (v := .slice (some ⟨b11, 0, none⟩) 0 0) (x := .bool false) rfl kk kk ?_
 have e8 : HopelessPipes_v1 m ps vs s = false := by unfold HopelessPipes_v1; rw [q24]; try rfl
 have ho102 := own_empty (base := w.heap.size) (size := 1) x15 lo17
 replace ho102 : World.ownsRow _ _ _ _ _ _ (intsV []) := ho102
 exact fin_rd (zs := []) (own_rd ho102) (by unfold HopelessPipes_v0; rw [if_neg (by rw [e8]; simp)]) e8.symm c101
end Go.Proofs.Ytdbgfejeleafgaa
namespace Go.Proofs.Ytdbgfejeleafgaa
open Go.RowKit
set_option linter.unusedVariables false
theorem choiceTo_all {l : List Int} {t : Nat} : ∀ {i : Nat}, i ≤ l.length → (∀ j, j < i → t / 2 ^ j % 2 = 1) → choiceTo l t i = l.take i
  | 0, _, _ => by simp [choiceTo]
  | i + 1, hi, h => by
    have hx : l[i]? = some l[i] := List.getElem?_eq_getElem (by omega)
    rw [choiceTo_yes hx (h i (by omega)), choiceTo_all (by omega) (fun j hj => h j (by omega)), List.take_add_one, hx]; rfl
theorem choice_all (l : List Int) : choice l (2 ^ l.length - 1) = l := by
  unfold choice
  rw [choiceTo_all (Nat.le_refl _) (fun j hj => ?_), List.take_length]
  have h1 : (2 ^ l.length - 1).testBit j = decide (j < l.length) := Nat.testBit_two_pow_sub_one ..
  rw [Nat.testBit_eq_decide_div_mod_eq, decide_eq_true hj, decide_eq_true_eq] at h1
  exact h1
end Go.Proofs.Ytdbgfejeleafgaa
