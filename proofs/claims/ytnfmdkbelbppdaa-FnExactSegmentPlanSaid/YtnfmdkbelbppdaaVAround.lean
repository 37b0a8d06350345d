/- The valves around a segment: both packages answer alike. -/
import Derived.Test.YtnfmdkbelbppdaaVFin
import Derived.Test.YtnfmdkbelbppdaaVRow
namespace Go.Proofs.Ytnfmdkbelbppdaa
open Go.RowKit
set_option linter.unusedVariables false
set_option linter.unusedSimpArgs false

/-- The valve at an index is around the segment of an element: one of its two sides alone is in it. -/
noncomputable def arQ (ps : List Pp) (vs : List Vv) (a : Int) (i : Int) : Bool := match vs[i.toNat]? with
  | some v => !(rb (linked ps (openQ vs false)) a v.node == rb (linked ps (openQ vs false)) a (9 + findL ps v.pipe))
  | none => false
noncomputable def aroundI (ps : List Pp) (vs : List Vv) (a : Int) (k : Nat) : List Int := (upTo k).filter (arQ ps vs a)
theorem aroundI_len (ps : List Pp) (vs : List Vv) (a : Int) (k : Nat) : (aroundI ps vs a k).length ≤ k := by
  unfold aroundI; have := List.length_filter_le (arQ ps vs a) (upTo k); rw [upTo_len] at this; exact this
theorem aroundI_in {ps : List Pp} {vs : List Vv} {a : Int} {k : Nat} {y : Int} (h : y ∈ aroundI ps vs a k) : 0 ≤ y ∧ y < k := by
  unfold aroundI at h; exact mem_upTo.1 (List.mem_filter.1 h).1
theorem aroundI_yes {ps : List Pp} {vs : List Vv} {a : Int} {i : Nat} {x : Vv} (hx : vs[i]? = some x) (h : rb (linked ps (openQ vs false)) a x.node ≠ rb (linked ps (openQ vs false)) a (9 + findL ps x.pipe)) : aroundI ps vs a (i + 1) = aroundI ps vs a i ++ [(i : Int)] := by
  unfold aroundI; rw [upTo_succ, List.filter_append, List.filter_cons_of_pos (by unfold arQ; rw [Int.toNat_natCast, hx]; simpa using h)]; rfl
theorem aroundI_no {ps : List Pp} {vs : List Vv} {a : Int} {i : Nat} {x : Vv} (hx : vs[i]? = some x) (h : rb (linked ps (openQ vs false)) a x.node = rb (linked ps (openQ vs false)) a (9 + findL ps x.pipe)) : aroundI ps vs a (i + 1) = aroundI ps vs a i := by
  unfold aroundI; rw [upTo_succ, List.filter_append, List.filter_cons_of_neg (by unfold arQ; rw [Int.toNat_natCast, hx]; simp [h]), List.filter_nil, List.append_nil]
/-- The numbers of the valves at indices. -/
def idsV (vs : List Vv) (xs : List Int) : List Int := xs.map (fun i => match vs[i.toNat]? with | some v => v.id | none => 0)
theorem idsV_len (vs : List Vv) (xs : List Int) : (idsV vs xs).length = xs.length := by simp [idsV]
theorem idsV_take {vs : List Vv} {xs : List Int} {i : Nat} {y : Int} {v : Vv} (hy : xs[i]? = some y) (hp : vs[y.toNat]? = some v) : idsV vs (xs.take (i + 1)) = idsV vs (xs.take i) ++ [v.id] := by
  rw [List.take_add_one, hy]; simp [idsV, hp]
def ValvesAround_v1 (m : Int) (ps : List Pp) (vs : List Vv) (a : Int) : Bool := goodV m ps vs && decide (0 ≤ findL ps a)
noncomputable def ValvesAround_v0 (m : Int) (ps : List Pp) (vs : List Vv) (a : Int) : List Int := if ValvesAround_v1 m ps vs a = true then idsV vs (aroundI ps vs (9 + findL ps a) vs.length) else []
theorem ValvesAround_len (m : Int) (ps : List Pp) (vs : List Vv) (a : Int) : (ValvesAround_v0 m ps vs a).length ≤ 1048576 := by
  unfold ValvesAround_v0
  split
  · rename_i h
    have hg : goodV m ps vs = true := by unfold ValvesAround_v1 at h; rw [Bool.and_eq_true] at h; exact h.1
    have := (goodV_of hg).len
    rw [idsV_len]
    have := aroundI_len ps vs (9 + findL ps a) vs.length
    omega
  · simp

set_option maxRecDepth 100000 in
set_option maxHeartbeats 1000000 in
theorem valvesAround_any (m : Int) (A : Option Addr) (n c : Nat) (ps : List Pp) (A2 : Option Addr) (n2 c2 : Nat) (vs : List Vv) (a : Int) (w : World) (ha : Rd w 4 A n (pipesV ps)) (hb : Rd w 4 A2 n2 (valvesV vs)) (hn : n ≤ 1048576) (hn2 : n2 ≤ 1048576) (hv9 : GoodVal m ps vs) (hfa : 0 ≤ findL ps a) :
    Calls Try.prog 76 #[.agg #[.int .i64 m, .slice A n c], .slice A2 n2 c2, .int .i64 a] w fun e w' => ∃ A' n' c', e = .returned (.slice A' n' c') ∧ w'.ownsRow w.heap.size 3 1 (.slice A' n' c') n' (intsV (aroundI ps vs (9 + findL ps a) vs.length)) ∧ Below w.heap.size w w' := by
  have hl := rd_pipes_len ha
  have hl2 := rd_valves_len hb
  have hg := hv9.net
  have hgl := hg.lo
  have hgh := hg.hi
  have hp := hg.pipesIn
  have hlen10 := hg.len
  have hu := hv9.uniq
  have hvl := hv9.len
  have hfl := findL_lt ps a
  go_enter Try.func76, Try.ntmps76
  refine wp_seq_k (fun K1 h1 => ?_)
  refine W.region_plain (row := none) [(0, true), (1, false)] (by kernel_rfl) ?_
  have s1 := SG.self w none
  refine W.sn (fun b => .pointer (some ⟨b, 0, none⟩)) #[.int .i64 m, .slice A n c] 32 s1 rfl (by kernel_rfl) rfl (fun _ => by kernel_rfl) (fun b2 w3 hb4 k5 x6 s7 => ?_)
  have lo8 : w.heap.size ≤ b2 := by have := ((SG.belowR (Below.refl _ _) s1 (fun kq e => by cases e))).size; omega
  refine W.as (v := .slice none 0 0) (h := ?_)
  refine W.endF 48 [(0, .agg #[.int .i64 m, .slice A n c]), (1, .slice A2 n2 c2), (2, .int .i64 a), (3, .pointer (some ⟨b2, 0, none⟩)), (6, .slice none 0 0)] (fun U9 => ?_)
  have c10 := (SG.belowR (Below.refl _ _) s7 (fun kq e => by cases e))
  refine h1 _ _ ?_
  refine wp_seq_k (fun K2 h2 => ?_)
  refine W.region_sch (row := none) (Sch.app [(0, false), (1, false), (2, false), (3, false)] (.br 4 7 (Sch.app [] (.br 5 7 (Sch.app [] (.br 6 7 (Sch.of [(8, false), (7, true), (9, false)]) (Sch.of [(6, true), (8, false), (9, false)]))) (Sch.of [(5, true), (6, true), (8, false), (9, false)]))) (Sch.of [(4, true), (5, true), (6, true), (8, false), (9, false)]))) (by kernel_rfl) (by kernel_rfl) (fun _ d _ _ _ h => by cases d <;> exact h) (by kernel_rfl) (fun w11 e12 s13 => ?_)
  refine W.q (v := .agg #[.int .i64 m, .slice A n c]) (hr := (r_load2 rfl (by kernel_rfl) (by kernel_rfl) (by kernel_rfl) (sgS (blk_cell (j := 0) x6 (by kernel_rfl)) (by simp)) (sgS (blk_cell (j := 1) x6 (by kernel_rfl)) (by simp)))) (h := ?_)
  refine W.mv (v := .slice A2 n2 c2) (h := ?_)
  refine W.q (v := .agg #[.int .i64 m, .slice A n c]) (hr := (r_load2 rfl (by kernel_rfl) (by kernel_rfl) (by kernel_rfl) (sgS (blk_cell (j := 0) x6 (by kernel_rfl)) (by simp)) (sgS (blk_cell (j := 1) x6 (by kernel_rfl)) (by simp)))) (h := ?_)
  refine W.mv (v := .int .i64 a) (h := ?_)
  refine W.sbr ?_ ?_
  · refine W.sc (vs := [.agg #[.int .i64 m, .slice A n c], .int .i64 a]) rfl rfl (by kernel_rfl) (by kernel_rfl) (by kernel_rfl) rfl (pipeIndex_any m A n c ps a _ (Rd.kept ha (SG.belowR c10 s13 (fun kq e => by cases e))) (by omega)) ?_
    rintro e w15 ⟨rfl, b14⟩
    have s16 := SG.of_below s13 b14
    refine ⟨_, rfl, s16, ?_⟩
    refine W.sbr ?_ ?_
    · refine W.sc (vs := [.int .i64 (findL ps a)]) rfl rfl (by kernel_rfl) (by kernel_rfl) (by kernel_rfl) rfl (element_any (findL ps a) _ (by omega)) ?_
      rintro e w' ⟨rfl, rfl⟩
      refine ⟨_, rfl, s16, ?_⟩
      refine W.sbr ?_ ?_
      · refine W.sc (vs := [.agg #[.int .i64 m, .slice A n c], .slice A2 n2 c2, .int .i64 (9 + (findL ps a))]) rfl rfl (by kernel_rfl) (by kernel_rfl) (by kernel_rfl) rfl (segmentOf_any m A n c ps A2 n2 c2 vs (9 + (findL ps a)) (9 + (findL ps a)).toNat _ (Rd.kept ha (SG.belowR c10 s16 (fun kq e => by cases e))) (Rd.kept hb (SG.belowR c10 s16 (fun kq e => by cases e))) (by omega) (by omega) hp (by omega) (by omega) (by omega) (by omega)) ?_
        rintro e w25 ⟨pb19, rfl, lo23, rd20, b24⟩
        have s26 := SG.of_below s16 b24
        refine ⟨_, rfl, s26, ?_⟩
        have sp27 : Sp (some ⟨pb19, 0, none⟩) 19 (some b2) := sp_ptrB (Nat.lt_of_lt_of_le (Nat.lt_of_lt_of_le (blk_lt x6) (World.grownBy.size s16)) lo23)
        have hl21 := rd_bools_len rd20
        rw [wetL_len] at hl21
        have hl21 : (wetL (linked ps (openQ vs false)) (9 + (findL ps a))).length = 19 := wetL_len _ _
        refine W.as (v := .pointer (some ⟨pb19, 0, none⟩)) (h := ?_)
        refine W.sn (fun b => .slice (some ⟨b, 0, none⟩) 0 0) #[] 3 s26 rfl (by kernel_rfl) rfl (fun _ => by kernel_rfl) (fun b28 w29 hb30 k31 x32 s33 => ?_)
        have lo34 : w.heap.size ≤ b28 := by have := ((SG.belowR c10 s26 (fun kq e => by cases e))).size; omega
        have sp35 : Sp (some ⟨pb19, 0, none⟩) 19 (some b28) := sp_new rd20 (by have := hb30; omega)
        have ne36 : b2 ≠ b28 := by have := blk_lt x6; have := World.grownBy.size s26; omega
        have rd37 := Rd.kept rd20 k31
        refine W.as (v := .slice (some ⟨b28, 0, none⟩) 0 0) (h := ?_)
        refine W.endF 48 [(0, .agg #[.int .i64 m, .slice A n c]), (1, .slice A2 n2 c2), (2, .int .i64 a), (3, .pointer (some ⟨b2, 0, none⟩)), (6, .slice none 0 0), (7, .pointer (some ⟨pb19, 0, none⟩)), (8, .slice (some ⟨b28, 0, none⟩) 0 0)] (fun U38 => ?_)
        have x6 := SG.blk s33 x6 (by simp)
        have c39 := (SG.belowR c10 s33 (fun kq e => by cases e))
        refine h2 _ _ ?_
        refine wp_seq_k (fun K3 h3 => ?_)
        refine wp_seq_k (fun K4 h4 => ?_)
        refine W.region_quiet [(0, false), (1, false), (2, false)] (by kernel_rfl) ?_
        refine W.mv (v := .slice A2 n2 c2) (h := ?_)
        refine W.q (v := .int .i64 ((n2 : Nat) : Int)) (hr := (r_len (A := A2) (n := n2) (c := c2) rfl (by kernel_rfl) (by kernel_rfl))) (h := ?_)
        refine W.mv (v := .int .i64 0) (h := ?_)
        refine W.endF 48 [(0, .agg #[.int .i64 m, .slice A n c]), (1, .slice A2 n2 c2), (2, .int .i64 a), (3, .pointer (some ⟨b2, 0, none⟩)), (6, .slice none 0 0), (7, .pointer (some ⟨pb19, 0, none⟩)), (8, .slice (some ⟨b28, 0, none⟩) 0 0), (19, .slice A2 n2 c2), (20, .int .i64 ((n2 : Nat) : Int)), (21, .int .i64 0)] (fun U40 => ?_)
        refine h4 _ _ ?_
        refine wp_block ?_
        have ho41 := own_empty (base := w.heap.size) (size := 1) x32 lo34
        replace ho41 : World.ownsRow _ _ _ _ _ _ (intsV []) := ho41
        have sp42 := sp_own (n' := 0) (c := 0) sp35
        have nb43 : Nb b2 (.slice (some ⟨b28, 0, none⟩) 0 0) := nb_new (by have := ne36; omega)
        refine loopK (fun am0 aa0 wl0 => ∃ (i : Nat) (A0_8 : Option Addr) (n0_8 : Nat) (c0_8 : Nat) (U0 : Nat → Value), aa0 = ⟨(fr U0 [(0, .agg #[.int .i64 m, .slice A n c]), (1, .slice A2 n2 c2), (2, .int .i64 a), (3, .pointer (some ⟨b2, 0, none⟩)), (6, .slice none 0 0), (7, .pointer (some ⟨pb19, 0, none⟩)), (8, .slice A0_8 n0_8 c0_8), (19, .slice A2 n2 c2), (20, .int .i64 ((n2 : Nat) : Int)), (21, .int .i64 ((i : Nat) : Int))] 48 0).toArray, []⟩ ∧ (am0 = n2 - i) ∧ (i ≤ n2) ∧ (n0_8 ≤ i) ∧ (wl0.heap[b2]? = some (.cells #[.int .i64 m, .slice A n c] 32 (0, 0))) ∧ (wl0.ownsRow w.heap.size 3 1 (.slice A0_8 n0_8 c0_8) n0_8 (intsV (aroundI ps vs (9 + findL ps a) i))) ∧ (Nb b2 (.slice A0_8 n0_8 c0_8)) ∧ (Rd wl0 1 (some ⟨pb19, 0, none⟩) 19 (boolsV (wetL (linked ps (openQ vs false)) (9 + (findL ps a))))) ∧ (Sp (some ⟨pb19, 0, none⟩) 19 (Value.ownBlock (.slice A0_8 n0_8 c0_8))) ∧ (Below w.heap.size w wl0)) (n2 - 0) ?_ ?_
        · exact ⟨0, (some ⟨b28, 0, none⟩), 0, 0, (fun iU9 => lk [(0, .agg #[.int .i64 m, .slice A n c]), (1, .slice A2 n2 c2), (2, .int .i64 a), (3, .pointer (some ⟨b2, 0, none⟩)), (6, .slice none 0 0), (7, .pointer (some ⟨pb19, 0, none⟩)), (8, .slice (some ⟨b28, 0, none⟩) 0 0), (19, .slice A2 n2 c2), (20, .int .i64 ((n2 : Nat) : Int)), (21, .int .i64 0)] iU9 (U40 iU9)), (by kernel_rfl), rfl, (Nat.zero_le _), (Nat.zero_le _), x6, ho41, nb43, rd37, sp42, c39⟩
        rintro am0 aa0 wl0 K5 h5 ⟨i, A0_8, n0_8, c0_8, U0, rfl, rfl, hi, hb8, x6, ho0_8, nb0_8_b2, rd0_7, sp0_7_8, c44⟩
        refine wp_seq_k (fun K6 h6 => ?_)
        refine W.region_quiet [(0, false)] (by kernel_rfl) ?_
        by_cases q45 : (((i : Nat) : Int) : Int) < (((n2 : Nat) : Int) : Int)
        · refine W.q (v := .bool true) (hr := (r_lss (m := ((i : Nat) : Int)) (n := ((n2 : Nat) : Int)) rfl (by kernel_rfl) (by kernel_rfl) (decide_eq_true q45))) (h := ?_)
          refine W.endF 48 [(0, .agg #[.int .i64 m, .slice A n c]), (1, .slice A2 n2 c2), (2, .int .i64 a), (3, .pointer (some ⟨b2, 0, none⟩)), (6, .slice none 0 0), (7, .pointer (some ⟨pb19, 0, none⟩)), (8, .slice A0_8 n0_8 c0_8), (19, .slice A2 n2 c2), (20, .int .i64 ((n2 : Nat) : Int)), (21, .int .i64 ((i : Nat) : Int)), (22, .bool true)] (fun U46 => ?_)
          refine h6 _ _ ?_
          refine wp_seq_k (fun K7 h7 => ?_)
          refine wp_cond_true (by kernel_rfl) ?_
          refine wp_skip ?_
          refine h7 _ _ ?_
          refine wp_seq_k (fun K8 h8 => ?_)
          refine wp_block ?_
          refine wp_seq_k (fun K9 h9 => ?_)
          refine W.region_plain (row := none) [(0, false), (1, false), (2, false), (3, true), (4, false), (5, true)] (by kernel_rfl) ?_
          have s47 := SG.self wl0 none
          refine W.mv (v := .int .i64 ((i : Nat) : Int)) (h := ?_)
          obtain ⟨x48, hx49⟩ := get_of (zs := vs) (k := i) (by have := hl2; omega)
          obtain ⟨b50, o51, hA52, hb53, hc54, hc55, hc56, hc57⟩ := Rd.elValve hb hx49
          refine W.q (v := .pointer (some ⟨b50, o51 + i * 4, none⟩)) (hr := (r_idx (n := n2) (c := c2) (k := i) rfl (by kernel_rfl) hA52 (by kernel_rfl) (by kernel_rfl) (by have := hl2; omega))) (h := ?_)
          refine W.q (v := .agg #[.int .i64 x48.id, .int .i64 x48.pipe, .int .i64 x48.node, .bool x48.shut]) (hr := (r_load4 rfl (by kernel_rfl) (by kernel_rfl) (by kernel_rfl) (sgS (later c44 hc54) (by simp)) (sgS (later c44 hc55) (by simp)) (sgS (later c44 hc56) (by simp)) (sgS (later c44 hc57) (by simp)))) (h := ?_)
          refine W.sn (fun b => .pointer (some ⟨b, 0, none⟩)) #[.int .i64 0, .int .i64 0, .int .i64 0, .bool false] 60 s47 rfl (by kernel_rfl) rfl (fun _ => by kernel_rfl) (fun b58 w59 hb60 k61 x62 s63 => ?_)
          have lo64 : w.heap.size ≤ b58 := by have := ((SG.belowR c44 s47 (fun kq e => by cases e))).size; omega
          have sp65 : Sp (some ⟨pb19, 0, none⟩) 19 (some b58) := sp_new rd0_7 (by have := World.grownBy.size s47; have := hb60; omega)
          have ne66 : b2 ≠ b58 := by have := blk_lt x6; have := World.grownBy.size s47; omega
          have nb67 : Nb b58 (.slice A0_8 n0_8 c0_8) := nb_hi ho0_8 (Nat.le_of_eq hb60)
          have ho68 := own_kept ho0_8 k61
          refine W.as (v := .int .i64 ((i : Nat) : Int)) (h := ?_)
          refine W.ss (v := .agg #[.int .i64 x48.id, .int .i64 x48.pipe, .int .i64 x48.node, .bool x48.shut]) (j := 0) (news := [.int .i64 x48.id, .int .i64 x48.pipe, .int .i64 x48.node, .bool x48.shut]) (cs' := #[.int .i64 x48.id, .int .i64 x48.pipe, .int .i64 x48.node, .bool x48.shut]) s63 rfl (by kernel_rfl) rfl rfl (by kernel_rfl) (by kernel_rfl) x62 (by kernel_rfl) (by kernel_rfl) (by simp) (by kernel_rfl) (by kernel_rfl) (.inr (by have := World.grownBy.size s47; have := hb60; omega)) (fun w69 g70 x71 s72 => ?_)
          have ho73 := own_grown ho68 g70 (fun j e1 e2 => by cases e2; exact nb67 e1.symm)
          refine W.endF 48 [(0, .agg #[.int .i64 m, .slice A n c]), (1, .slice A2 n2 c2), (2, .int .i64 a), (3, .pointer (some ⟨b2, 0, none⟩)), (6, .slice none 0 0), (7, .pointer (some ⟨pb19, 0, none⟩)), (8, .slice A0_8 n0_8 c0_8), (9, .int .i64 ((i : Nat) : Int)), (10, .pointer (some ⟨b58, 0, none⟩)), (19, .slice A2 n2 c2), (20, .int .i64 ((n2 : Nat) : Int)), (21, .int .i64 ((i : Nat) : Int)), (22, .bool true)] (fun U74 => ?_)
          have x6 := SG.blk s72 x6 (by simp)
          have c75 := (SG.belowR c44 s72 (fun kq e => by cases e))
          have rd76 := Rd.kept rd0_7 (SG.below s72)
          refine h9 _ _ ?_
          refine wp_seq_k (fun K10 h10 => ?_)
          refine W.region_sch (row := none) (Sch.of [(0, false), (1, false), (2, false), (3, false), (4, false), (5, false), (6, false), (7, false), (8, false), (9, false), (12, false), (10, true), (11, true), (13, false), (14, false), (15, false)]) (by kernel_rfl) (by kernel_rfl) (fun _ d _ _ _ h => by cases d <;> exact h) (by kernel_rfl) (fun w77 e78 s79 => ?_)
          have ho80 := own_heap ho73 e78
          refine W.mv (v := .pointer (some ⟨pb19, 0, none⟩)) (h := ?_)
          refine W.q (v := .pointer (some ⟨b58, 2, none⟩)) (hr := (r_field (k := 2) rfl (by kernel_rfl) (by kernel_rfl))) (h := ?_)
          refine W.ld (v := .int .i64 x48.node) (hc := (sgS (blk_cell (j := 2) x71 (by kernel_rfl)) (by simp))) (h := ?_)
          refine W.q (v := .pointer (some ⟨pb19, 0, none⟩)) (hr := (r_nilCheck rfl (by kernel_rfl))) (h := ?_)
          obtain ⟨kz, pz, ekz, hkz, hpz, hnz⟩ := hv9.place x48 (List.mem_of_getElem? hx49)
          have hgz := hg.at hpz
          obtain ⟨x81, hx82⟩ := get_of (zs := (wetL (linked ps (openQ vs false)) (9 + (findL ps a)))) (k := x48.node.toNat) (by have := hl21; omega)
          obtain ⟨hb83, hc84⟩ := Rd.elBool rd76 hx82
          refine W.q (v := .pointer (some ⟨pb19, x48.node.toNat, none⟩)) (hr := (r_idxA (len := 19) (k := x48.node.toNat) rfl (by kernel_rfl) (evk (z := x48.node) (by kernel_rfl) (by omega)) (by kernel_rfl) (by omega))) (h := ?_)
          refine W.ld (v := .bool x81) (hc := (sgS hc84 (by simp))) (h := ?_)
          refine W.mv (v := .pointer (some ⟨pb19, 0, none⟩)) (h := ?_)
          refine W.q (v := .agg #[.int .i64 m, .slice A n c]) (hr := (r_load2 rfl (by kernel_rfl) (by kernel_rfl) (by kernel_rfl) (sgS (blk_cell (j := 0) x6 (by kernel_rfl)) (by simp)) (sgS (blk_cell (j := 1) x6 (by kernel_rfl)) (by simp)))) (h := ?_)
          refine W.q (v := .pointer (some ⟨b58, 1, none⟩)) (hr := (r_field (k := 1) rfl (by kernel_rfl) (by kernel_rfl))) (h := ?_)
          refine W.ld (v := .int .i64 x48.pipe) (hc := (sgS (blk_cell (j := 1) x71 (by kernel_rfl)) (by simp))) (h := ?_)
          refine W.q (v := .pointer (some ⟨pb19, 0, none⟩)) (hr := (r_nilCheck rfl (by kernel_rfl))) (h := ?_)
          refine W.sc (vs := [.agg #[.int .i64 m, .slice A n c], .int .i64 x48.pipe]) rfl rfl (by kernel_rfl) (by kernel_rfl) (by kernel_rfl) rfl (pipeIndex_any m A n c ps x48.pipe _ (Rd.kept ha (SG.belowR c75 s79 (fun kq e => by cases e))) (by omega)) ?_
          rintro e w86 ⟨rfl, b85⟩
          have s87 := SG.of_below s79 b85
          refine ⟨_, rfl, s87, ?_⟩
          have ho88 := own_kept ho80 b85
          refine W.sc (vs := [.int .i64 (findL ps x48.pipe)]) rfl rfl (by kernel_rfl) (by kernel_rfl) (by kernel_rfl) rfl (element_any (findL ps x48.pipe) _ (by omega)) ?_
          rintro e w' ⟨rfl, rfl⟩
          refine ⟨_, rfl, s87, ?_⟩
          obtain ⟨x91, hx92⟩ := get_of (zs := (wetL (linked ps (openQ vs false)) (9 + (findL ps a)))) (k := (9 + kz)) (by have := hl21; omega)
          obtain ⟨hb93, hc94⟩ := Rd.elBool rd76 hx92
          refine W.q (v := .pointer (some ⟨pb19, (9 + kz), none⟩)) (hr := (r_idxA (len := 19) (k := (9 + kz)) rfl (by kernel_rfl) (evk (z := 9 + (findL ps x48.pipe)) (by kernel_rfl) (by omega)) (by kernel_rfl) (by omega))) (h := ?_)
          refine W.ld (v := .bool x91) (hc := (sgS hc94 (by simp))) (h := ?_)
          by_cases q95 : x81 = x91
          · refine W.q (v := .bool false) (hr := (r_neqB (m := x81) (n := x91) rfl (by kernel_rfl) (by kernel_rfl) (by kernel_rfl) (by rw [(beq_iff_eq.2 q95)]; rfl))) (h := ?_)
            refine W.endF 48 [(0, .agg #[.int .i64 m, .slice A n c]), (1, .slice A2 n2 c2), (2, .int .i64 a), (3, .pointer (some ⟨b2, 0, none⟩)), (6, .slice none 0 0), (7, .pointer (some ⟨pb19, 0, none⟩)), (8, .slice A0_8 n0_8 c0_8), (9, .int .i64 ((i : Nat) : Int)), (10, .pointer (some ⟨b58, 0, none⟩)), (19, .slice A2 n2 c2), (20, .int .i64 ((n2 : Nat) : Int)), (21, .int .i64 ((i : Nat) : Int)), (22, .bool true), (41, .bool false)] (fun U96 => ?_)
            have x6 := SG.blk s87 x6 (by simp)
            have x71 := SG.blk s87 x71 (by simp)
            have c97 := (SG.belowR c75 s87 (fun kq e => by cases e))
            have rd98 := Rd.kept rd76 (SG.below s87)
            refine h10 _ _ ?_
            refine wp_cond_false (by kernel_rfl) ?_
            refine wp_skip ?_
            refine h8 _ _ ?_
            refine W.region_quiet [(0, false), (1, false)] (by kernel_rfl) ?_
            refine W.q (v := .int .i64 ((i + 1 : Nat) : Int)) (hr := (r_add (m := ((i : Nat) : Int)) (n := 1) (z := ((i + 1 : Nat) : Int)) rfl (by kernel_rfl) (by kernel_rfl) (by omega) (by omega))) (h := ?_)
            refine W.mv (v := .int .i64 ((i + 1 : Nat) : Int)) (h := ?_)
            refine W.endF 48 [(0, .agg #[.int .i64 m, .slice A n c]), (1, .slice A2 n2 c2), (2, .int .i64 a), (3, .pointer (some ⟨b2, 0, none⟩)), (6, .slice none 0 0), (7, .pointer (some ⟨pb19, 0, none⟩)), (8, .slice A0_8 n0_8 c0_8), (9, .int .i64 ((i : Nat) : Int)), (10, .pointer (some ⟨b58, 0, none⟩)), (19, .slice A2 n2 c2), (20, .int .i64 ((n2 : Nat) : Int)), (21, .int .i64 ((i + 1 : Nat) : Int)), (22, .bool true), (41, .bool false)] (fun U99 => ?_)
            exact h5 _ _ _ (by omega : (n2 - (i + 1)) < _) ⟨i + 1, A0_8, n0_8, c0_8, (fun iU9 => lk [(0, .agg #[.int .i64 m, .slice A n c]), (1, .slice A2 n2 c2), (2, .int .i64 a), (3, .pointer (some ⟨b2, 0, none⟩)), (6, .slice none 0 0), (7, .pointer (some ⟨pb19, 0, none⟩)), (8, .slice A0_8 n0_8 c0_8), (9, .int .i64 ((i : Nat) : Int)), (10, .pointer (some ⟨b58, 0, none⟩)), (19, .slice A2 n2 c2), (20, .int .i64 ((n2 : Nat) : Int)), (21, .int .i64 ((i + 1 : Nat) : Int)), (22, .bool true), (41, .bool false)] iU9 (U99 iU9)), (by kernel_rfl), rfl, (by omega), (by omega), x6, (by rw [aroundI_no hx49 (by have h9 := wet_eqI (b := x48.node) hx82 (by omega); have h8 := wet_eqI (b := 9 + findL ps x48.pipe) hx92 (by omega); rw [← h9, ← h8]; exact q95)]; exact ho88), nb0_8_b2, rd98, sp0_7_8, c97⟩
          · refine W.q (v := .bool true) (hr := (r_neqB (m := x81) (n := x91) rfl (by kernel_rfl) (by kernel_rfl) (by kernel_rfl) (by rw [(beq_eq_false_iff_ne.2 q95)]; rfl))) (h := ?_)
            refine W.endF 48 [(0, .agg #[.int .i64 m, .slice A n c]), (1, .slice A2 n2 c2), (2, .int .i64 a), (3, .pointer (some ⟨b2, 0, none⟩)), (6, .slice none 0 0), (7, .pointer (some ⟨pb19, 0, none⟩)), (8, .slice A0_8 n0_8 c0_8), (9, .int .i64 ((i : Nat) : Int)), (10, .pointer (some ⟨b58, 0, none⟩)), (19, .slice A2 n2 c2), (20, .int .i64 ((n2 : Nat) : Int)), (21, .int .i64 ((i : Nat) : Int)), (22, .bool true), (41, .bool true)] (fun U100 => ?_)
            have x6 := SG.blk s87 x6 (by simp)
            have x71 := SG.blk s87 x71 (by simp)
            have c101 := (SG.belowR c75 s87 (fun kq e => by cases e))
            have rd102 := Rd.kept rd76 (SG.below s87)
            refine h10 _ _ ?_
            refine wp_cond_true (by kernel_rfl) ?_
            refine W.region_plain (row := (Value.ownBlock (.slice A0_8 n0_8 c0_8))) [(0, false), (1, false), (2, true), (3, true), (4, false)] (by kernel_rfl) ?_
            have s103 := SG.self w86 (Value.ownBlock (.slice A0_8 n0_8 c0_8))
            refine W.mv (v := .slice A0_8 n0_8 c0_8) (h := ?_)
            refine W.mv (v := .int .i64 ((i : Nat) : Int)) (h := ?_)
            refine W.sn (fun b => .slice (some ⟨b, 0, none⟩) 1 1) #[.int .i64 ((i : Nat) : Int)] 3 s103 rfl (by kernel_rfl) rfl (fun _ => by kernel_rfl) (fun b104 w105 hb106 k107 x108 s109 => ?_)
            have lo110 : w.heap.size ≤ b104 := by have := ((SG.belowR c101 s103 (fun kq e => (World.ownsRow.lt ho88 kq e).1))).size; omega
            have sp111 : Sp (some ⟨pb19, 0, none⟩) 19 (some b104) := sp_new rd102 (by have := World.grownBy.size s103; have := hb106; omega)
            have ne112 : b2 ≠ b104 := by have := blk_lt x6; have := World.grownBy.size s103; omega
            have ne113 : b58 ≠ b104 := by have := blk_lt x71; have := World.grownBy.size s103; omega
            have nb114 : Nb b104 (.slice A0_8 n0_8 c0_8) := nb_hi ho88 (Nat.le_of_eq hb106)
            have ho115 := own_kept ho88 k107
            refine W.sap (e := 3) (size := 1) (base := w.heap.size) (m := 1) (v := .slice A0_8 n0_8 c0_8) (c := 1) s109 rfl rfl rfl rfl (by kernel_rfl) (by kernel_rfl) (by kernel_rfl) ho115 x108 (by kernel_rfl) (by kernel_rfl) (by omega) (by omega) (by have := ((SG.belowR c101 s109 (fun kq e => (World.ownsRow.lt ho88 kq e).1))).size; omega) (.inl rfl) (fun g116 cap117 w118 ho119 hg120 hat121 hlt122 s123 => ?_)
            have nb124 : Nb b2 (.slice (some ⟨g116, 0, none⟩) (n0_8 + 1) cap117) := nb_app nb0_8_b2 (Nat.lt_of_lt_of_le (blk_lt x6) (World.grownBy.size s109)) hat121
            have nb125 : Nb b58 (.slice (some ⟨g116, 0, none⟩) (n0_8 + 1) cap117) := nb_app nb67 (Nat.lt_of_lt_of_le (blk_lt x71) (World.grownBy.size s109)) hat121
            have nb126 : Nb b104 (.slice (some ⟨g116, 0, none⟩) (n0_8 + 1) cap117) := nb_app nb114 (blk_lt x108) hat121
            have x108 := (hg120.block _ (blk_lt x108) nb114).trans x108
            have ho119 := own_snoc ho119
            have sp127 := sp_app (v' := .slice (some ⟨g116, 0, none⟩) (n0_8 + 1) cap117) sp0_7_8 rd102 (World.grownBy.size s109) (hat3 (v := .slice A0_8 n0_8 c0_8) hat121)
            refine W.as (v := .slice (some ⟨g116, 0, none⟩) (n0_8 + 1) cap117) (h := ?_)
            refine W.endF 48 [(0, .agg #[.int .i64 m, .slice A n c]), (1, .slice A2 n2 c2), (2, .int .i64 a), (3, .pointer (some ⟨b2, 0, none⟩)), (6, .slice none 0 0), (7, .pointer (some ⟨pb19, 0, none⟩)), (8, .slice (some ⟨g116, 0, none⟩) (n0_8 + 1) cap117), (9, .int .i64 ((i : Nat) : Int)), (10, .pointer (some ⟨b58, 0, none⟩)), (19, .slice A2 n2 c2), (20, .int .i64 ((n2 : Nat) : Int)), (21, .int .i64 ((i : Nat) : Int)), (22, .bool true), (41, .bool true)] (fun U128 => ?_)
            have x6 := SG.blk s123 x6 nb0_8_b2
            have x71 := SG.blk s123 x71 nb67
            have c129 := (SG.belowR c101 s123 (fun kq e => (World.ownsRow.lt ho88 kq e).1))
            have rd130 := rd_sep rd102 s123 sp0_7_8
            refine h8 _ _ ?_
            refine W.region_quiet [(0, false), (1, false)] (by kernel_rfl) ?_
            refine W.q (v := .int .i64 ((i + 1 : Nat) : Int)) (hr := (r_add (m := ((i : Nat) : Int)) (n := 1) (z := ((i + 1 : Nat) : Int)) rfl (by kernel_rfl) (by kernel_rfl) (by omega) (by omega))) (h := ?_)
            refine W.mv (v := .int .i64 ((i + 1 : Nat) : Int)) (h := ?_)
            refine W.endF 48 [(0, .agg #[.int .i64 m, .slice A n c]), (1, .slice A2 n2 c2), (2, .int .i64 a), (3, .pointer (some ⟨b2, 0, none⟩)), (6, .slice none 0 0), (7, .pointer (some ⟨pb19, 0, none⟩)), (8, .slice (some ⟨g116, 0, none⟩) (n0_8 + 1) cap117), (9, .int .i64 ((i : Nat) : Int)), (10, .pointer (some ⟨b58, 0, none⟩)), (19, .slice A2 n2 c2), (20, .int .i64 ((n2 : Nat) : Int)), (21, .int .i64 ((i + 1 : Nat) : Int)), (22, .bool true), (41, .bool true)] (fun U131 => ?_)
            exact h5 _ _ _ (by omega : (n2 - (i + 1)) < _) ⟨i + 1, (some ⟨g116, 0, none⟩), (n0_8 + 1), cap117, (fun iU9 => lk [(0, .agg #[.int .i64 m, .slice A n c]), (1, .slice A2 n2 c2), (2, .int .i64 a), (3, .pointer (some ⟨b2, 0, none⟩)), (6, .slice none 0 0), (7, .pointer (some ⟨pb19, 0, none⟩)), (8, .slice (some ⟨g116, 0, none⟩) (n0_8 + 1) cap117), (9, .int .i64 ((i : Nat) : Int)), (10, .pointer (some ⟨b58, 0, none⟩)), (19, .slice A2 n2 c2), (20, .int .i64 ((n2 : Nat) : Int)), (21, .int .i64 ((i + 1 : Nat) : Int)), (22, .bool true), (41, .bool true)] iU9 (U131 iU9)), (by kernel_rfl), rfl, (by omega), (by omega), x6, (by rw [aroundI_yes hx49 (by have h9 := wet_eqI (b := x48.node) hx82 (by omega); have h8 := wet_eqI (b := 9 + findL ps x48.pipe) hx92 (by omega); rw [← h9, ← h8]; exact q95)]; exact ho119), nb124, rd130, sp127, c129⟩
        · refine W.q (v := .bool false) (hr := (r_lss (m := ((i : Nat) : Int)) (n := ((n2 : Nat) : Int)) rfl (by kernel_rfl) (by kernel_rfl) (decide_eq_false q45))) (h := ?_)
          refine W.endF 48 [(0, .agg #[.int .i64 m, .slice A n c]), (1, .slice A2 n2 c2), (2, .int .i64 a), (3, .pointer (some ⟨b2, 0, none⟩)), (6, .slice none 0 0), (7, .pointer (some ⟨pb19, 0, none⟩)), (8, .slice A0_8 n0_8 c0_8), (19, .slice A2 n2 c2), (20, .int .i64 ((n2 : Nat) : Int)), (21, .int .i64 ((i : Nat) : Int)), (22, .bool false)] (fun U132 => ?_)
          refine h6 _ _ ?_
          refine wp_seq_k (fun K11 h11 => ?_)
          refine wp_cond_false (by kernel_rfl) ?_
          refine wp_exit ?_
          refine h3 _ _ ?_
          refine wp_seq_k (fun K12 h12 => ?_)
          refine W.region_quiet [(0, false), (1, false)] (by kernel_rfl) ?_
          refine W.mv (v := .slice A0_8 n0_8 c0_8) (h := ?_)
          refine W.as (v := .slice A0_8 n0_8 c0_8) (h := ?_)
          refine W.endF 48 [(0, .agg #[.int .i64 m, .slice A n c]), (1, .slice A2 n2 c2), (2, .int .i64 a), (3, .pointer (some ⟨b2, 0, none⟩)), (6, .slice A0_8 n0_8 c0_8), (7, .pointer (some ⟨pb19, 0, none⟩)), (8, .slice A0_8 n0_8 c0_8), (19, .slice A2 n2 c2), (20, .int .i64 ((n2 : Nat) : Int)), (21, .int .i64 ((i : Nat) : Int)), (22, .bool false)] (fun U133 => ?_)
          refine h12 _ _ ?_
          refine wp_ret ?_
          try simp only [Exit.then]
          refine ret1 (v := .slice A0_8 n0_8 c0_8) rfl (by kernel_rfl) ?_
          exact ⟨_, _, _, rfl, (by rw [show vs.length = i by omega]; exact ho0_8), c44⟩
      · refine W.sn (fun b => .slice (some ⟨b, 0, none⟩) 0 0) #[] 3 s16 rfl (by kernel_rfl) rfl (fun _ => by kernel_rfl) (fun b134 w135 hb136 k137 x138 s139 => ?_)
        have lo140 : w.heap.size ≤ b134 := by have := ((SG.belowR c10 s16 (fun kq e => by cases e))).size; omega
        have ne141 : b2 ≠ b134 := by have := blk_lt x6; have := World.grownBy.size s16; omega
        have lb147 := blk_lt x138
        refine W.sc (vs := [.agg #[.int .i64 m, .slice A n c], .slice A2 n2 c2, .int .i64 (9 + (findL ps a))]) rfl rfl (by kernel_rfl) (by kernel_rfl) (by kernel_rfl) rfl (segmentOf_any m A n c ps A2 n2 c2 vs (9 + (findL ps a)) (9 + (findL ps a)).toNat _ (Rd.kept ha (SG.belowR c10 s139 (fun kq e => by cases e))) (Rd.kept hb (SG.belowR c10 s139 (fun kq e => by cases e))) (by omega) (by omega) hp (by omega) (by omega) (by omega) (by omega)) ?_
        rintro e w149 ⟨pb142, rfl, lo146, rd143, b148⟩
        have s150 := SG.of_below s139 b148
        refine ⟨_, rfl, s150, ?_⟩
        have x138 := (b148.block _ (blk_lt x138)).trans x138
        have sp151 : Sp (some ⟨pb142, 0, none⟩) 19 (some b2) := sp_ptrB (Nat.lt_of_lt_of_le (Nat.lt_of_lt_of_le (blk_lt x6) (World.grownBy.size s139)) lo146)
        have sp152 : Sp (some ⟨pb142, 0, none⟩) 19 (some b134) := sp_ptrB (Nat.lt_of_lt_of_le lb147 lo146)
        have hl144 := rd_bools_len rd143
        rw [wetL_len] at hl144
        have hl144 : (wetL (linked ps (openQ vs false)) (9 + (findL ps a))).length = 19 := wetL_len _ _
        refine W.as (v := .pointer (some ⟨pb142, 0, none⟩)) (h := ?_)
        refine W.as (v := .slice (some ⟨b134, 0, none⟩) 0 0) (h := ?_)
        refine W.endF 48 [(0, .agg #[.int .i64 m, .slice A n c]), (1, .slice A2 n2 c2), (2, .int .i64 a), (3, .pointer (some ⟨b2, 0, none⟩)), (6, .slice none 0 0), (7, .pointer (some ⟨pb142, 0, none⟩)), (8, .slice (some ⟨b134, 0, none⟩) 0 0)] (fun U153 => ?_)
        have x6 := SG.blk s150 x6 (by simp)
        have c154 := (SG.belowR c10 s150 (fun kq e => by cases e))
        refine h2 _ _ ?_
        refine wp_seq_k (fun K13 h13 => ?_)
        refine wp_seq_k (fun K14 h14 => ?_)
        refine W.region_quiet [(0, false), (1, false), (2, false)] (by kernel_rfl) ?_
        refine W.mv (v := .slice A2 n2 c2) (h := ?_)
        refine W.q (v := .int .i64 ((n2 : Nat) : Int)) (hr := (r_len (A := A2) (n := n2) (c := c2) rfl (by kernel_rfl) (by kernel_rfl))) (h := ?_)
        refine W.mv (v := .int .i64 0) (h := ?_)
        refine W.endF 48 [(0, .agg #[.int .i64 m, .slice A n c]), (1, .slice A2 n2 c2), (2, .int .i64 a), (3, .pointer (some ⟨b2, 0, none⟩)), (6, .slice none 0 0), (7, .pointer (some ⟨pb142, 0, none⟩)), (8, .slice (some ⟨b134, 0, none⟩) 0 0), (19, .slice A2 n2 c2), (20, .int .i64 ((n2 : Nat) : Int)), (21, .int .i64 0)] (fun U155 => ?_)
        refine h14 _ _ ?_
        refine wp_block ?_
        have ho156 := own_empty (base := w.heap.size) (size := 1) x138 lo140
        replace ho156 : World.ownsRow _ _ _ _ _ _ (intsV []) := ho156
        have sp157 := sp_own (n' := 0) (c := 0) sp152
        have nb158 : Nb b2 (.slice (some ⟨b134, 0, none⟩) 0 0) := nb_new (by have := ne141; omega)
        refine loopK (fun am0 aa0 wl0 => ∃ (i : Nat) (A0_8 : Option Addr) (n0_8 : Nat) (c0_8 : Nat) (U0 : Nat → Value), aa0 = ⟨(fr U0 [(0, .agg #[.int .i64 m, .slice A n c]), (1, .slice A2 n2 c2), (2, .int .i64 a), (3, .pointer (some ⟨b2, 0, none⟩)), (6, .slice none 0 0), (7, .pointer (some ⟨pb142, 0, none⟩)), (8, .slice A0_8 n0_8 c0_8), (19, .slice A2 n2 c2), (20, .int .i64 ((n2 : Nat) : Int)), (21, .int .i64 ((i : Nat) : Int))] 48 0).toArray, []⟩ ∧ (am0 = n2 - i) ∧ (i ≤ n2) ∧ (n0_8 ≤ i) ∧ (wl0.heap[b2]? = some (.cells #[.int .i64 m, .slice A n c] 32 (0, 0))) ∧ (wl0.ownsRow w.heap.size 3 1 (.slice A0_8 n0_8 c0_8) n0_8 (intsV (aroundI ps vs (9 + findL ps a) i))) ∧ (Nb b2 (.slice A0_8 n0_8 c0_8)) ∧ (Rd wl0 1 (some ⟨pb142, 0, none⟩) 19 (boolsV (wetL (linked ps (openQ vs false)) (9 + (findL ps a))))) ∧ (Sp (some ⟨pb142, 0, none⟩) 19 (Value.ownBlock (.slice A0_8 n0_8 c0_8))) ∧ (Below w.heap.size w wl0)) (n2 - 0) ?_ ?_
        · exact ⟨0, (some ⟨b134, 0, none⟩), 0, 0, (fun iU9 => lk [(0, .agg #[.int .i64 m, .slice A n c]), (1, .slice A2 n2 c2), (2, .int .i64 a), (3, .pointer (some ⟨b2, 0, none⟩)), (6, .slice none 0 0), (7, .pointer (some ⟨pb142, 0, none⟩)), (8, .slice (some ⟨b134, 0, none⟩) 0 0), (19, .slice A2 n2 c2), (20, .int .i64 ((n2 : Nat) : Int)), (21, .int .i64 0)] iU9 (U155 iU9)), (by kernel_rfl), rfl, (Nat.zero_le _), (Nat.zero_le _), x6, ho156, nb158, rd143, sp157, c154⟩
        rintro am0 aa0 wl0 K15 h15 ⟨i, A0_8, n0_8, c0_8, U0, rfl, rfl, hi, hb8, x6, ho0_8, nb0_8_b2, rd0_7, sp0_7_8, c159⟩
        refine wp_seq_k (fun K16 h16 => ?_)
        refine W.region_quiet [(0, false)] (by kernel_rfl) ?_
        by_cases q160 : (((i : Nat) : Int) : Int) < (((n2 : Nat) : Int) : Int)
        · refine W.q (v := .bool true) (hr := (r_lss (m := ((i : Nat) : Int)) (n := ((n2 : Nat) : Int)) rfl (by kernel_rfl) (by kernel_rfl) (decide_eq_true q160))) (h := ?_)
          refine W.endF 48 [(0, .agg #[.int .i64 m, .slice A n c]), (1, .slice A2 n2 c2), (2, .int .i64 a), (3, .pointer (some ⟨b2, 0, none⟩)), (6, .slice none 0 0), (7, .pointer (some ⟨pb142, 0, none⟩)), (8, .slice A0_8 n0_8 c0_8), (19, .slice A2 n2 c2), (20, .int .i64 ((n2 : Nat) : Int)), (21, .int .i64 ((i : Nat) : Int)), (22, .bool true)] (fun U161 => ?_)
          refine h16 _ _ ?_
          refine wp_seq_k (fun K17 h17 => ?_)
          refine wp_cond_true (by kernel_rfl) ?_
          refine wp_skip ?_
          refine h17 _ _ ?_
          refine wp_seq_k (fun K18 h18 => ?_)
          refine wp_block ?_
          refine wp_seq_k (fun K19 h19 => ?_)
          refine W.region_plain (row := none) [(0, false), (1, false), (2, false), (3, true), (4, false), (5, true)] (by kernel_rfl) ?_
          have s162 := SG.self wl0 none
          refine W.mv (v := .int .i64 ((i : Nat) : Int)) (h := ?_)
          obtain ⟨x163, hx164⟩ := get_of (zs := vs) (k := i) (by have := hl2; omega)
          obtain ⟨b165, o166, hA167, hb168, hc169, hc170, hc171, hc172⟩ := Rd.elValve hb hx164
          refine W.q (v := .pointer (some ⟨b165, o166 + i * 4, none⟩)) (hr := (r_idx (n := n2) (c := c2) (k := i) rfl (by kernel_rfl) hA167 (by kernel_rfl) (by kernel_rfl) (by have := hl2; omega))) (h := ?_)
          refine W.q (v := .agg #[.int .i64 x163.id, .int .i64 x163.pipe, .int .i64 x163.node, .bool x163.shut]) (hr := (r_load4 rfl (by kernel_rfl) (by kernel_rfl) (by kernel_rfl) (sgS (later c159 hc169) (by simp)) (sgS (later c159 hc170) (by simp)) (sgS (later c159 hc171) (by simp)) (sgS (later c159 hc172) (by simp)))) (h := ?_)
          refine W.sn (fun b => .pointer (some ⟨b, 0, none⟩)) #[.int .i64 0, .int .i64 0, .int .i64 0, .bool false] 60 s162 rfl (by kernel_rfl) rfl (fun _ => by kernel_rfl) (fun b173 w174 hb175 k176 x177 s178 => ?_)
          have lo179 : w.heap.size ≤ b173 := by have := ((SG.belowR c159 s162 (fun kq e => by cases e))).size; omega
          have sp180 : Sp (some ⟨pb142, 0, none⟩) 19 (some b173) := sp_new rd0_7 (by have := World.grownBy.size s162; have := hb175; omega)
          have ne181 : b2 ≠ b173 := by have := blk_lt x6; have := World.grownBy.size s162; omega
          have nb182 : Nb b173 (.slice A0_8 n0_8 c0_8) := nb_hi ho0_8 (Nat.le_of_eq hb175)
          have ho183 := own_kept ho0_8 k176
          refine W.as (v := .int .i64 ((i : Nat) : Int)) (h := ?_)
          refine W.ss (v := .agg #[.int .i64 x163.id, .int .i64 x163.pipe, .int .i64 x163.node, .bool x163.shut]) (j := 0) (news := [.int .i64 x163.id, .int .i64 x163.pipe, .int .i64 x163.node, .bool x163.shut]) (cs' := #[.int .i64 x163.id, .int .i64 x163.pipe, .int .i64 x163.node, .bool x163.shut]) s178 rfl (by kernel_rfl) rfl rfl (by kernel_rfl) (by kernel_rfl) x177 (by kernel_rfl) (by kernel_rfl) (by simp) (by kernel_rfl) (by kernel_rfl) (.inr (by have := World.grownBy.size s162; have := hb175; omega)) (fun w184 g185 x186 s187 => ?_)
          have ho188 := own_grown ho183 g185 (fun j e1 e2 => by cases e2; exact nb182 e1.symm)
          refine W.endF 48 [(0, .agg #[.int .i64 m, .slice A n c]), (1, .slice A2 n2 c2), (2, .int .i64 a), (3, .pointer (some ⟨b2, 0, none⟩)), (6, .slice none 0 0), (7, .pointer (some ⟨pb142, 0, none⟩)), (8, .slice A0_8 n0_8 c0_8), (9, .int .i64 ((i : Nat) : Int)), (10, .pointer (some ⟨b173, 0, none⟩)), (19, .slice A2 n2 c2), (20, .int .i64 ((n2 : Nat) : Int)), (21, .int .i64 ((i : Nat) : Int)), (22, .bool true)] (fun U189 => ?_)
          have x6 := SG.blk s187 x6 (by simp)
          have c190 := (SG.belowR c159 s187 (fun kq e => by cases e))
          have rd191 := Rd.kept rd0_7 (SG.below s187)
          refine h19 _ _ ?_
          refine wp_seq_k (fun K20 h20 => ?_)
          refine W.region_sch (row := none) (Sch.of [(0, false), (1, false), (2, false), (3, false), (4, false), (5, false), (6, false), (7, false), (8, false), (9, false), (12, false), (10, true), (11, true), (13, false), (14, false), (15, false)]) (by kernel_rfl) (by kernel_rfl) (fun _ d _ _ _ h => by cases d <;> exact h) (by kernel_rfl) (fun w192 e193 s194 => ?_)
          have ho195 := own_heap ho188 e193
          refine W.mv (v := .pointer (some ⟨pb142, 0, none⟩)) (h := ?_)
          refine W.q (v := .pointer (some ⟨b173, 2, none⟩)) (hr := (r_field (k := 2) rfl (by kernel_rfl) (by kernel_rfl))) (h := ?_)
          refine W.ld (v := .int .i64 x163.node) (hc := (sgS (blk_cell (j := 2) x186 (by kernel_rfl)) (by simp))) (h := ?_)
          refine W.q (v := .pointer (some ⟨pb142, 0, none⟩)) (hr := (r_nilCheck rfl (by kernel_rfl))) (h := ?_)
          obtain ⟨kz, pz, ekz, hkz, hpz, hnz⟩ := hv9.place x163 (List.mem_of_getElem? hx164)
          have hgz := hg.at hpz
          obtain ⟨x196, hx197⟩ := get_of (zs := (wetL (linked ps (openQ vs false)) (9 + (findL ps a)))) (k := x163.node.toNat) (by have := hl144; omega)
          obtain ⟨hb198, hc199⟩ := Rd.elBool rd191 hx197
          refine W.q (v := .pointer (some ⟨pb142, x163.node.toNat, none⟩)) (hr := (r_idxA (len := 19) (k := x163.node.toNat) rfl (by kernel_rfl) (evk (z := x163.node) (by kernel_rfl) (by omega)) (by kernel_rfl) (by omega))) (h := ?_)
          refine W.ld (v := .bool x196) (hc := (sgS hc199 (by simp))) (h := ?_)
          refine W.mv (v := .pointer (some ⟨pb142, 0, none⟩)) (h := ?_)
          refine W.q (v := .agg #[.int .i64 m, .slice A n c]) (hr := (r_load2 rfl (by kernel_rfl) (by kernel_rfl) (by kernel_rfl) (sgS (blk_cell (j := 0) x6 (by kernel_rfl)) (by simp)) (sgS (blk_cell (j := 1) x6 (by kernel_rfl)) (by simp)))) (h := ?_)
          refine W.q (v := .pointer (some ⟨b173, 1, none⟩)) (hr := (r_field (k := 1) rfl (by kernel_rfl) (by kernel_rfl))) (h := ?_)
          refine W.ld (v := .int .i64 x163.pipe) (hc := (sgS (blk_cell (j := 1) x186 (by kernel_rfl)) (by simp))) (h := ?_)
          refine W.q (v := .pointer (some ⟨pb142, 0, none⟩)) (hr := (r_nilCheck rfl (by kernel_rfl))) (h := ?_)
          refine W.sc (vs := [.agg #[.int .i64 m, .slice A n c], .int .i64 x163.pipe]) rfl rfl (by kernel_rfl) (by kernel_rfl) (by kernel_rfl) rfl (pipeIndex_any m A n c ps x163.pipe _ (Rd.kept ha (SG.belowR c190 s194 (fun kq e => by cases e))) (by omega)) ?_
          rintro e w201 ⟨rfl, b200⟩
          have s202 := SG.of_below s194 b200
          refine ⟨_, rfl, s202, ?_⟩
          have ho203 := own_kept ho195 b200
          refine W.sc (vs := [.int .i64 (findL ps x163.pipe)]) rfl rfl (by kernel_rfl) (by kernel_rfl) (by kernel_rfl) rfl (element_any (findL ps x163.pipe) _ (by omega)) ?_
          rintro e w' ⟨rfl, rfl⟩
          refine ⟨_, rfl, s202, ?_⟩
          obtain ⟨x206, hx207⟩ := get_of (zs := (wetL (linked ps (openQ vs false)) (9 + (findL ps a)))) (k := (9 + kz)) (by have := hl144; omega)
          obtain ⟨hb208, hc209⟩ := Rd.elBool rd191 hx207
          refine W.q (v := .pointer (some ⟨pb142, (9 + kz), none⟩)) (hr := (r_idxA (len := 19) (k := (9 + kz)) rfl (by kernel_rfl) (evk (z := 9 + (findL ps x163.pipe)) (by kernel_rfl) (by omega)) (by kernel_rfl) (by omega))) (h := ?_)
          refine W.ld (v := .bool x206) (hc := (sgS hc209 (by simp))) (h := ?_)
          by_cases q210 : x196 = x206
          · refine W.q (v := .bool false) (hr := (r_neqB (m := x196) (n := x206) rfl (by kernel_rfl) (by kernel_rfl) (by kernel_rfl) (by rw [(beq_iff_eq.2 q210)]; rfl))) (h := ?_)
            refine W.endF 48 [(0, .agg #[.int .i64 m, .slice A n c]), (1, .slice A2 n2 c2), (2, .int .i64 a), (3, .pointer (some ⟨b2, 0, none⟩)), (6, .slice none 0 0), (7, .pointer (some ⟨pb142, 0, none⟩)), (8, .slice A0_8 n0_8 c0_8), (9, .int .i64 ((i : Nat) : Int)), (10, .pointer (some ⟨b173, 0, none⟩)), (19, .slice A2 n2 c2), (20, .int .i64 ((n2 : Nat) : Int)), (21, .int .i64 ((i : Nat) : Int)), (22, .bool true), (41, .bool false)] (fun U211 => ?_)
            have x6 := SG.blk s202 x6 (by simp)
            have x186 := SG.blk s202 x186 (by simp)
            have c212 := (SG.belowR c190 s202 (fun kq e => by cases e))
            have rd213 := Rd.kept rd191 (SG.below s202)
            refine h20 _ _ ?_
            refine wp_cond_false (by kernel_rfl) ?_
            refine wp_skip ?_
            refine h18 _ _ ?_
            refine W.region_quiet [(0, false), (1, false)] (by kernel_rfl) ?_
            refine W.q (v := .int .i64 ((i + 1 : Nat) : Int)) (hr := (r_add (m := ((i : Nat) : Int)) (n := 1) (z := ((i + 1 : Nat) : Int)) rfl (by kernel_rfl) (by kernel_rfl) (by omega) (by omega))) (h := ?_)
            refine W.mv (v := .int .i64 ((i + 1 : Nat) : Int)) (h := ?_)
            refine W.endF 48 [(0, .agg #[.int .i64 m, .slice A n c]), (1, .slice A2 n2 c2), (2, .int .i64 a), (3, .pointer (some ⟨b2, 0, none⟩)), (6, .slice none 0 0), (7, .pointer (some ⟨pb142, 0, none⟩)), (8, .slice A0_8 n0_8 c0_8), (9, .int .i64 ((i : Nat) : Int)), (10, .pointer (some ⟨b173, 0, none⟩)), (19, .slice A2 n2 c2), (20, .int .i64 ((n2 : Nat) : Int)), (21, .int .i64 ((i + 1 : Nat) : Int)), (22, .bool true), (41, .bool false)] (fun U214 => ?_)
            exact h15 _ _ _ (by omega : (n2 - (i + 1)) < _) ⟨i + 1, A0_8, n0_8, c0_8, (fun iU9 => lk [(0, .agg #[.int .i64 m, .slice A n c]), (1, .slice A2 n2 c2), (2, .int .i64 a), (3, .pointer (some ⟨b2, 0, none⟩)), (6, .slice none 0 0), (7, .pointer (some ⟨pb142, 0, none⟩)), (8, .slice A0_8 n0_8 c0_8), (9, .int .i64 ((i : Nat) : Int)), (10, .pointer (some ⟨b173, 0, none⟩)), (19, .slice A2 n2 c2), (20, .int .i64 ((n2 : Nat) : Int)), (21, .int .i64 ((i + 1 : Nat) : Int)), (22, .bool true), (41, .bool false)] iU9 (U214 iU9)), (by kernel_rfl), rfl, (by omega), (by omega), x6, (by rw [aroundI_no hx164 (by have h9 := wet_eqI (b := x163.node) hx197 (by omega); have h8 := wet_eqI (b := 9 + findL ps x163.pipe) hx207 (by omega); rw [← h9, ← h8]; exact q210)]; exact ho203), nb0_8_b2, rd213, sp0_7_8, c212⟩
          · refine W.q (v := .bool true) (hr := (r_neqB (m := x196) (n := x206) rfl (by kernel_rfl) (by kernel_rfl) (by kernel_rfl) (by rw [(beq_eq_false_iff_ne.2 q210)]; rfl))) (h := ?_)
            refine W.endF 48 [(0, .agg #[.int .i64 m, .slice A n c]), (1, .slice A2 n2 c2), (2, .int .i64 a), (3, .pointer (some ⟨b2, 0, none⟩)), (6, .slice none 0 0), (7, .pointer (some ⟨pb142, 0, none⟩)), (8, .slice A0_8 n0_8 c0_8), (9, .int .i64 ((i : Nat) : Int)), (10, .pointer (some ⟨b173, 0, none⟩)), (19, .slice A2 n2 c2), (20, .int .i64 ((n2 : Nat) : Int)), (21, .int .i64 ((i : Nat) : Int)), (22, .bool true), (41, .bool true)] (fun U215 => ?_)
            have x6 := SG.blk s202 x6 (by simp)
            have x186 := SG.blk s202 x186 (by simp)
            have c216 := (SG.belowR c190 s202 (fun kq e => by cases e))
            have rd217 := Rd.kept rd191 (SG.below s202)
            refine h20 _ _ ?_
            refine wp_cond_true (by kernel_rfl) ?_
            refine W.region_plain (row := (Value.ownBlock (.slice A0_8 n0_8 c0_8))) [(0, false), (1, false), (2, true), (3, true), (4, false)] (by kernel_rfl) ?_
            have s218 := SG.self w201 (Value.ownBlock (.slice A0_8 n0_8 c0_8))
            refine W.mv (v := .slice A0_8 n0_8 c0_8) (h := ?_)
            refine W.mv (v := .int .i64 ((i : Nat) : Int)) (h := ?_)
            refine W.sn (fun b => .slice (some ⟨b, 0, none⟩) 1 1) #[.int .i64 ((i : Nat) : Int)] 3 s218 rfl (by kernel_rfl) rfl (fun _ => by kernel_rfl) (fun b219 w220 hb221 k222 x223 s224 => ?_)
            have lo225 : w.heap.size ≤ b219 := by have := ((SG.belowR c216 s218 (fun kq e => (World.ownsRow.lt ho203 kq e).1))).size; omega
            have sp226 : Sp (some ⟨pb142, 0, none⟩) 19 (some b219) := sp_new rd217 (by have := World.grownBy.size s218; have := hb221; omega)
            have ne227 : b2 ≠ b219 := by have := blk_lt x6; have := World.grownBy.size s218; omega
            have ne228 : b173 ≠ b219 := by have := blk_lt x186; have := World.grownBy.size s218; omega
            have nb229 : Nb b219 (.slice A0_8 n0_8 c0_8) := nb_hi ho203 (Nat.le_of_eq hb221)
            have ho230 := own_kept ho203 k222
            refine W.sap (e := 3) (size := 1) (base := w.heap.size) (m := 1) (v := .slice A0_8 n0_8 c0_8) (c := 1) s224 rfl rfl rfl rfl (by kernel_rfl) (by kernel_rfl) (by kernel_rfl) ho230 x223 (by kernel_rfl) (by kernel_rfl) (by omega) (by omega) (by have := ((SG.belowR c216 s224 (fun kq e => (World.ownsRow.lt ho203 kq e).1))).size; omega) (.inl rfl) (fun g231 cap232 w233 ho234 hg235 hat236 hlt237 s238 => ?_)
            have nb239 : Nb b2 (.slice (some ⟨g231, 0, none⟩) (n0_8 + 1) cap232) := nb_app nb0_8_b2 (Nat.lt_of_lt_of_le (blk_lt x6) (World.grownBy.size s224)) hat236
            have nb240 : Nb b173 (.slice (some ⟨g231, 0, none⟩) (n0_8 + 1) cap232) := nb_app nb182 (Nat.lt_of_lt_of_le (blk_lt x186) (World.grownBy.size s224)) hat236
            have nb241 : Nb b219 (.slice (some ⟨g231, 0, none⟩) (n0_8 + 1) cap232) := nb_app nb229 (blk_lt x223) hat236
            have x223 := (hg235.block _ (blk_lt x223) nb229).trans x223
            have ho234 := own_snoc ho234
            have sp242 := sp_app (v' := .slice (some ⟨g231, 0, none⟩) (n0_8 + 1) cap232) sp0_7_8 rd217 (World.grownBy.size s224) (hat3 (v := .slice A0_8 n0_8 c0_8) hat236)
            refine W.as (v := .slice (some ⟨g231, 0, none⟩) (n0_8 + 1) cap232) (h := ?_)
            refine W.endF 48 [(0, .agg #[.int .i64 m, .slice A n c]), (1, .slice A2 n2 c2), (2, .int .i64 a), (3, .pointer (some ⟨b2, 0, none⟩)), (6, .slice none 0 0), (7, .pointer (some ⟨pb142, 0, none⟩)), (8, .slice (some ⟨g231, 0, none⟩) (n0_8 + 1) cap232), (9, .int .i64 ((i : Nat) : Int)), (10, .pointer (some ⟨b173, 0, none⟩)), (19, .slice A2 n2 c2), (20, .int .i64 ((n2 : Nat) : Int)), (21, .int .i64 ((i : Nat) : Int)), (22, .bool true), (41, .bool true)] (fun U243 => ?_)
            have x6 := SG.blk s238 x6 nb0_8_b2
            have x186 := SG.blk s238 x186 nb182
            have c244 := (SG.belowR c216 s238 (fun kq e => (World.ownsRow.lt ho203 kq e).1))
            have rd245 := rd_sep rd217 s238 sp0_7_8
            refine h18 _ _ ?_
            refine W.region_quiet [(0, false), (1, false)] (by kernel_rfl) ?_
            refine W.q (v := .int .i64 ((i + 1 : Nat) : Int)) (hr := (r_add (m := ((i : Nat) : Int)) (n := 1) (z := ((i + 1 : Nat) : Int)) rfl (by kernel_rfl) (by kernel_rfl) (by omega) (by omega))) (h := ?_)
            refine W.mv (v := .int .i64 ((i + 1 : Nat) : Int)) (h := ?_)
            refine W.endF 48 [(0, .agg #[.int .i64 m, .slice A n c]), (1, .slice A2 n2 c2), (2, .int .i64 a), (3, .pointer (some ⟨b2, 0, none⟩)), (6, .slice none 0 0), (7, .pointer (some ⟨pb142, 0, none⟩)), (8, .slice (some ⟨g231, 0, none⟩) (n0_8 + 1) cap232), (9, .int .i64 ((i : Nat) : Int)), (10, .pointer (some ⟨b173, 0, none⟩)), (19, .slice A2 n2 c2), (20, .int .i64 ((n2 : Nat) : Int)), (21, .int .i64 ((i + 1 : Nat) : Int)), (22, .bool true), (41, .bool true)] (fun U246 => ?_)
            exact h15 _ _ _ (by omega : (n2 - (i + 1)) < _) ⟨i + 1, (some ⟨g231, 0, none⟩), (n0_8 + 1), cap232, (fun iU9 => lk [(0, .agg #[.int .i64 m, .slice A n c]), (1, .slice A2 n2 c2), (2, .int .i64 a), (3, .pointer (some ⟨b2, 0, none⟩)), (6, .slice none 0 0), (7, .pointer (some ⟨pb142, 0, none⟩)), (8, .slice (some ⟨g231, 0, none⟩) (n0_8 + 1) cap232), (9, .int .i64 ((i : Nat) : Int)), (10, .pointer (some ⟨b173, 0, none⟩)), (19, .slice A2 n2 c2), (20, .int .i64 ((n2 : Nat) : Int)), (21, .int .i64 ((i + 1 : Nat) : Int)), (22, .bool true), (41, .bool true)] iU9 (U246 iU9)), (by kernel_rfl), rfl, (by omega), (by omega), x6, (by rw [aroundI_yes hx164 (by have h9 := wet_eqI (b := x163.node) hx197 (by omega); have h8 := wet_eqI (b := 9 + findL ps x163.pipe) hx207 (by omega); rw [← h9, ← h8]; exact q210)]; exact ho234), nb239, rd245, sp242, c244⟩
        · refine W.q (v := .bool false) (hr := (r_lss (m := ((i : Nat) : Int)) (n := ((n2 : Nat) : Int)) rfl (by kernel_rfl) (by kernel_rfl) (decide_eq_false q160))) (h := ?_)
          refine W.endF 48 [(0, .agg #[.int .i64 m, .slice A n c]), (1, .slice A2 n2 c2), (2, .int .i64 a), (3, .pointer (some ⟨b2, 0, none⟩)), (6, .slice none 0 0), (7, .pointer (some ⟨pb142, 0, none⟩)), (8, .slice A0_8 n0_8 c0_8), (19, .slice A2 n2 c2), (20, .int .i64 ((n2 : Nat) : Int)), (21, .int .i64 ((i : Nat) : Int)), (22, .bool false)] (fun U247 => ?_)
          refine h16 _ _ ?_
          refine wp_seq_k (fun K21 h21 => ?_)
          refine wp_cond_false (by kernel_rfl) ?_
          refine wp_exit ?_
          refine h13 _ _ ?_
          refine wp_seq_k (fun K22 h22 => ?_)
          refine W.region_quiet [(0, false), (1, false)] (by kernel_rfl) ?_
          refine W.mv (v := .slice A0_8 n0_8 c0_8) (h := ?_)
          refine W.as (v := .slice A0_8 n0_8 c0_8) (h := ?_)
          refine W.endF 48 [(0, .agg #[.int .i64 m, .slice A n c]), (1, .slice A2 n2 c2), (2, .int .i64 a), (3, .pointer (some ⟨b2, 0, none⟩)), (6, .slice A0_8 n0_8 c0_8), (7, .pointer (some ⟨pb142, 0, none⟩)), (8, .slice A0_8 n0_8 c0_8), (19, .slice A2 n2 c2), (20, .int .i64 ((n2 : Nat) : Int)), (21, .int .i64 ((i : Nat) : Int)), (22, .bool false)] (fun U248 => ?_)
          refine h22 _ _ ?_
          refine wp_ret ?_
          try simp only [Exit.then]
          refine ret1 (v := .slice A0_8 n0_8 c0_8) rfl (by kernel_rfl) ?_
          exact ⟨_, _, _, rfl, (by rw [show vs.length = i by omega]; exact ho0_8), c159⟩
    · refine W.sn (fun b => .slice (some ⟨b, 0, none⟩) 0 0) #[] 3 s16 rfl (by kernel_rfl) rfl (fun _ => by kernel_rfl) (fun b249 w250 hb251 k252 x253 s254 => ?_)
      have lo255 : w.heap.size ≤ b249 := by have := ((SG.belowR c10 s16 (fun kq e => by cases e))).size; omega
      have ne256 : b2 ≠ b249 := by have := blk_lt x6; have := World.grownBy.size s16; omega
      refine W.sc (vs := [.int .i64 (findL ps a)]) rfl rfl (by kernel_rfl) (by kernel_rfl) (by kernel_rfl) rfl (element_any (findL ps a) _ (by omega)) ?_
      rintro e w' ⟨rfl, rfl⟩
      refine ⟨_, rfl, s254, ?_⟩
      have lb264 := blk_lt x253
      refine W.sc (vs := [.agg #[.int .i64 m, .slice A n c], .slice A2 n2 c2, .int .i64 (9 + (findL ps a))]) rfl rfl (by kernel_rfl) (by kernel_rfl) (by kernel_rfl) rfl (segmentOf_any m A n c ps A2 n2 c2 vs (9 + (findL ps a)) (9 + (findL ps a)).toNat _ (Rd.kept ha (SG.belowR c10 s254 (fun kq e => by cases e))) (Rd.kept hb (SG.belowR c10 s254 (fun kq e => by cases e))) (by omega) (by omega) hp (by omega) (by omega) (by omega) (by omega)) ?_
      rintro e w266 ⟨pb259, rfl, lo263, rd260, b265⟩
      have s267 := SG.of_below s254 b265
      refine ⟨_, rfl, s267, ?_⟩
      have x253 := (b265.block _ (blk_lt x253)).trans x253
      have sp268 : Sp (some ⟨pb259, 0, none⟩) 19 (some b2) := sp_ptrB (Nat.lt_of_lt_of_le (Nat.lt_of_lt_of_le (blk_lt x6) (World.grownBy.size s254)) lo263)
      have sp269 : Sp (some ⟨pb259, 0, none⟩) 19 (some b249) := sp_ptrB (Nat.lt_of_lt_of_le lb264 lo263)
      have hl261 := rd_bools_len rd260
      rw [wetL_len] at hl261
      have hl261 : (wetL (linked ps (openQ vs false)) (9 + (findL ps a))).length = 19 := wetL_len _ _
      refine W.as (v := .pointer (some ⟨pb259, 0, none⟩)) (h := ?_)
      refine W.as (v := .slice (some ⟨b249, 0, none⟩) 0 0) (h := ?_)
      refine W.endF 48 [(0, .agg #[.int .i64 m, .slice A n c]), (1, .slice A2 n2 c2), (2, .int .i64 a), (3, .pointer (some ⟨b2, 0, none⟩)), (6, .slice none 0 0), (7, .pointer (some ⟨pb259, 0, none⟩)), (8, .slice (some ⟨b249, 0, none⟩) 0 0)] (fun U270 => ?_)
      have x6 := SG.blk s267 x6 (by simp)
      have c271 := (SG.belowR c10 s267 (fun kq e => by cases e))
      refine h2 _ _ ?_
      refine wp_seq_k (fun K23 h23 => ?_)
      refine wp_seq_k (fun K24 h24 => ?_)
      refine W.region_quiet [(0, false), (1, false), (2, false)] (by kernel_rfl) ?_
      refine W.mv (v := .slice A2 n2 c2) (h := ?_)
      refine W.q (v := .int .i64 ((n2 : Nat) : Int)) (hr := (r_len (A := A2) (n := n2) (c := c2) rfl (by kernel_rfl) (by kernel_rfl))) (h := ?_)
      refine W.mv (v := .int .i64 0) (h := ?_)
      refine W.endF 48 [(0, .agg #[.int .i64 m, .slice A n c]), (1, .slice A2 n2 c2), (2, .int .i64 a), (3, .pointer (some ⟨b2, 0, none⟩)), (6, .slice none 0 0), (7, .pointer (some ⟨pb259, 0, none⟩)), (8, .slice (some ⟨b249, 0, none⟩) 0 0), (19, .slice A2 n2 c2), (20, .int .i64 ((n2 : Nat) : Int)), (21, .int .i64 0)] (fun U272 => ?_)
      refine h24 _ _ ?_
      refine wp_block ?_
      have ho273 := own_empty (base := w.heap.size) (size := 1) x253 lo255
      replace ho273 : World.ownsRow _ _ _ _ _ _ (intsV []) := ho273
      have sp274 := sp_own (n' := 0) (c := 0) sp269
      have nb275 : Nb b2 (.slice (some ⟨b249, 0, none⟩) 0 0) := nb_new (by have := ne256; omega)
      refine loopK (fun am0 aa0 wl0 => ∃ (i : Nat) (A0_8 : Option Addr) (n0_8 : Nat) (c0_8 : Nat) (U0 : Nat → Value), aa0 = ⟨(fr U0 [(0, .agg #[.int .i64 m, .slice A n c]), (1, .slice A2 n2 c2), (2, .int .i64 a), (3, .pointer (some ⟨b2, 0, none⟩)), (6, .slice none 0 0), (7, .pointer (some ⟨pb259, 0, none⟩)), (8, .slice A0_8 n0_8 c0_8), (19, .slice A2 n2 c2), (20, .int .i64 ((n2 : Nat) : Int)), (21, .int .i64 ((i : Nat) : Int))] 48 0).toArray, []⟩ ∧ (am0 = n2 - i) ∧ (i ≤ n2) ∧ (n0_8 ≤ i) ∧ (wl0.heap[b2]? = some (.cells #[.int .i64 m, .slice A n c] 32 (0, 0))) ∧ (wl0.ownsRow w.heap.size 3 1 (.slice A0_8 n0_8 c0_8) n0_8 (intsV (aroundI ps vs (9 + findL ps a) i))) ∧ (Nb b2 (.slice A0_8 n0_8 c0_8)) ∧ (Rd wl0 1 (some ⟨pb259, 0, none⟩) 19 (boolsV (wetL (linked ps (openQ vs false)) (9 + (findL ps a))))) ∧ (Sp (some ⟨pb259, 0, none⟩) 19 (Value.ownBlock (.slice A0_8 n0_8 c0_8))) ∧ (Below w.heap.size w wl0)) (n2 - 0) ?_ ?_
      · exact ⟨0, (some ⟨b249, 0, none⟩), 0, 0, (fun iU9 => lk [(0, .agg #[.int .i64 m, .slice A n c]), (1, .slice A2 n2 c2), (2, .int .i64 a), (3, .pointer (some ⟨b2, 0, none⟩)), (6, .slice none 0 0), (7, .pointer (some ⟨pb259, 0, none⟩)), (8, .slice (some ⟨b249, 0, none⟩) 0 0), (19, .slice A2 n2 c2), (20, .int .i64 ((n2 : Nat) : Int)), (21, .int .i64 0)] iU9 (U272 iU9)), (by kernel_rfl), rfl, (Nat.zero_le _), (Nat.zero_le _), x6, ho273, nb275, rd260, sp274, c271⟩
      rintro am0 aa0 wl0 K25 h25 ⟨i, A0_8, n0_8, c0_8, U0, rfl, rfl, hi, hb8, x6, ho0_8, nb0_8_b2, rd0_7, sp0_7_8, c276⟩
      refine wp_seq_k (fun K26 h26 => ?_)
      refine W.region_quiet [(0, false)] (by kernel_rfl) ?_
      by_cases q277 : (((i : Nat) : Int) : Int) < (((n2 : Nat) : Int) : Int)
      · refine W.q (v := .bool true) (hr := (r_lss (m := ((i : Nat) : Int)) (n := ((n2 : Nat) : Int)) rfl (by kernel_rfl) (by kernel_rfl) (decide_eq_true q277))) (h := ?_)
        refine W.endF 48 [(0, .agg #[.int .i64 m, .slice A n c]), (1, .slice A2 n2 c2), (2, .int .i64 a), (3, .pointer (some ⟨b2, 0, none⟩)), (6, .slice none 0 0), (7, .pointer (some ⟨pb259, 0, none⟩)), (8, .slice A0_8 n0_8 c0_8), (19, .slice A2 n2 c2), (20, .int .i64 ((n2 : Nat) : Int)), (21, .int .i64 ((i : Nat) : Int)), (22, .bool true)] (fun U278 => ?_)
        refine h26 _ _ ?_
        refine wp_seq_k (fun K27 h27 => ?_)
        refine wp_cond_true (by kernel_rfl) ?_
        refine wp_skip ?_
        refine h27 _ _ ?_
        refine wp_seq_k (fun K28 h28 => ?_)
        refine wp_block ?_
        refine wp_seq_k (fun K29 h29 => ?_)
        refine W.region_plain (row := none) [(0, false), (1, false), (2, false), (3, true), (4, false), (5, true)] (by kernel_rfl) ?_
        have s279 := SG.self wl0 none
        refine W.mv (v := .int .i64 ((i : Nat) : Int)) (h := ?_)
        obtain ⟨x280, hx281⟩ := get_of (zs := vs) (k := i) (by have := hl2; omega)
        obtain ⟨b282, o283, hA284, hb285, hc286, hc287, hc288, hc289⟩ := Rd.elValve hb hx281
        refine W.q (v := .pointer (some ⟨b282, o283 + i * 4, none⟩)) (hr := (r_idx (n := n2) (c := c2) (k := i) rfl (by kernel_rfl) hA284 (by kernel_rfl) (by kernel_rfl) (by have := hl2; omega))) (h := ?_)
        refine W.q (v := .agg #[.int .i64 x280.id, .int .i64 x280.pipe, .int .i64 x280.node, .bool x280.shut]) (hr := (r_load4 rfl (by kernel_rfl) (by kernel_rfl) (by kernel_rfl) (sgS (later c276 hc286) (by simp)) (sgS (later c276 hc287) (by simp)) (sgS (later c276 hc288) (by simp)) (sgS (later c276 hc289) (by simp)))) (h := ?_)
        refine W.sn (fun b => .pointer (some ⟨b, 0, none⟩)) #[.int .i64 0, .int .i64 0, .int .i64 0, .bool false] 60 s279 rfl (by kernel_rfl) rfl (fun _ => by kernel_rfl) (fun b290 w291 hb292 k293 x294 s295 => ?_)
        have lo296 : w.heap.size ≤ b290 := by have := ((SG.belowR c276 s279 (fun kq e => by cases e))).size; omega
        have sp297 : Sp (some ⟨pb259, 0, none⟩) 19 (some b290) := sp_new rd0_7 (by have := World.grownBy.size s279; have := hb292; omega)
        have ne298 : b2 ≠ b290 := by have := blk_lt x6; have := World.grownBy.size s279; omega
        have nb299 : Nb b290 (.slice A0_8 n0_8 c0_8) := nb_hi ho0_8 (Nat.le_of_eq hb292)
        have ho300 := own_kept ho0_8 k293
        refine W.as (v := .int .i64 ((i : Nat) : Int)) (h := ?_)
        refine W.ss (v := .agg #[.int .i64 x280.id, .int .i64 x280.pipe, .int .i64 x280.node, .bool x280.shut]) (j := 0) (news := [.int .i64 x280.id, .int .i64 x280.pipe, .int .i64 x280.node, .bool x280.shut]) (cs' := #[.int .i64 x280.id, .int .i64 x280.pipe, .int .i64 x280.node, .bool x280.shut]) s295 rfl (by kernel_rfl) rfl rfl (by kernel_rfl) (by kernel_rfl) x294 (by kernel_rfl) (by kernel_rfl) (by simp) (by kernel_rfl) (by kernel_rfl) (.inr (by have := World.grownBy.size s279; have := hb292; omega)) (fun w301 g302 x303 s304 => ?_)
        have ho305 := own_grown ho300 g302 (fun j e1 e2 => by cases e2; exact nb299 e1.symm)
        refine W.endF 48 [(0, .agg #[.int .i64 m, .slice A n c]), (1, .slice A2 n2 c2), (2, .int .i64 a), (3, .pointer (some ⟨b2, 0, none⟩)), (6, .slice none 0 0), (7, .pointer (some ⟨pb259, 0, none⟩)), (8, .slice A0_8 n0_8 c0_8), (9, .int .i64 ((i : Nat) : Int)), (10, .pointer (some ⟨b290, 0, none⟩)), (19, .slice A2 n2 c2), (20, .int .i64 ((n2 : Nat) : Int)), (21, .int .i64 ((i : Nat) : Int)), (22, .bool true)] (fun U306 => ?_)
        have x6 := SG.blk s304 x6 (by simp)
        have c307 := (SG.belowR c276 s304 (fun kq e => by cases e))
        have rd308 := Rd.kept rd0_7 (SG.below s304)
        refine h29 _ _ ?_
        refine wp_seq_k (fun K30 h30 => ?_)
        refine W.region_sch (row := none) (Sch.of [(0, false), (1, false), (2, false), (3, false), (4, false), (5, false), (6, false), (7, false), (8, false), (9, false), (12, false), (10, true), (11, true), (13, false), (14, false), (15, false)]) (by kernel_rfl) (by kernel_rfl) (fun _ d _ _ _ h => by cases d <;> exact h) (by kernel_rfl) (fun w309 e310 s311 => ?_)
        have ho312 := own_heap ho305 e310
        refine W.mv (v := .pointer (some ⟨pb259, 0, none⟩)) (h := ?_)
        refine W.q (v := .pointer (some ⟨b290, 2, none⟩)) (hr := (r_field (k := 2) rfl (by kernel_rfl) (by kernel_rfl))) (h := ?_)
        refine W.ld (v := .int .i64 x280.node) (hc := (sgS (blk_cell (j := 2) x303 (by kernel_rfl)) (by simp))) (h := ?_)
        refine W.q (v := .pointer (some ⟨pb259, 0, none⟩)) (hr := (r_nilCheck rfl (by kernel_rfl))) (h := ?_)
        obtain ⟨kz, pz, ekz, hkz, hpz, hnz⟩ := hv9.place x280 (List.mem_of_getElem? hx281)
        have hgz := hg.at hpz
        obtain ⟨x313, hx314⟩ := get_of (zs := (wetL (linked ps (openQ vs false)) (9 + (findL ps a)))) (k := x280.node.toNat) (by have := hl261; omega)
        obtain ⟨hb315, hc316⟩ := Rd.elBool rd308 hx314
        refine W.q (v := .pointer (some ⟨pb259, x280.node.toNat, none⟩)) (hr := (r_idxA (len := 19) (k := x280.node.toNat) rfl (by kernel_rfl) (evk (z := x280.node) (by kernel_rfl) (by omega)) (by kernel_rfl) (by omega))) (h := ?_)
        refine W.ld (v := .bool x313) (hc := (sgS hc316 (by simp))) (h := ?_)
        refine W.mv (v := .pointer (some ⟨pb259, 0, none⟩)) (h := ?_)
        refine W.q (v := .agg #[.int .i64 m, .slice A n c]) (hr := (r_load2 rfl (by kernel_rfl) (by kernel_rfl) (by kernel_rfl) (sgS (blk_cell (j := 0) x6 (by kernel_rfl)) (by simp)) (sgS (blk_cell (j := 1) x6 (by kernel_rfl)) (by simp)))) (h := ?_)
        refine W.q (v := .pointer (some ⟨b290, 1, none⟩)) (hr := (r_field (k := 1) rfl (by kernel_rfl) (by kernel_rfl))) (h := ?_)
        refine W.ld (v := .int .i64 x280.pipe) (hc := (sgS (blk_cell (j := 1) x303 (by kernel_rfl)) (by simp))) (h := ?_)
        refine W.q (v := .pointer (some ⟨pb259, 0, none⟩)) (hr := (r_nilCheck rfl (by kernel_rfl))) (h := ?_)
        refine W.sc (vs := [.agg #[.int .i64 m, .slice A n c], .int .i64 x280.pipe]) rfl rfl (by kernel_rfl) (by kernel_rfl) (by kernel_rfl) rfl (pipeIndex_any m A n c ps x280.pipe _ (Rd.kept ha (SG.belowR c307 s311 (fun kq e => by cases e))) (by omega)) ?_
        rintro e w318 ⟨rfl, b317⟩
        have s319 := SG.of_below s311 b317
        refine ⟨_, rfl, s319, ?_⟩
        have ho320 := own_kept ho312 b317
        refine W.sc (vs := [.int .i64 (findL ps x280.pipe)]) rfl rfl (by kernel_rfl) (by kernel_rfl) (by kernel_rfl) rfl (element_any (findL ps x280.pipe) _ (by omega)) ?_
        rintro e w' ⟨rfl, rfl⟩
        refine ⟨_, rfl, s319, ?_⟩
        obtain ⟨x323, hx324⟩ := get_of (zs := (wetL (linked ps (openQ vs false)) (9 + (findL ps a)))) (k := (9 + kz)) (by have := hl261; omega)
        obtain ⟨hb325, hc326⟩ := Rd.elBool rd308 hx324
        refine W.q (v := .pointer (some ⟨pb259, (9 + kz), none⟩)) (hr := (r_idxA (len := 19) (k := (9 + kz)) rfl (by kernel_rfl) (evk (z := 9 + (findL ps x280.pipe)) (by kernel_rfl) (by omega)) (by kernel_rfl) (by omega))) (h := ?_)
        refine W.ld (v := .bool x323) (hc := (sgS hc326 (by simp))) (h := ?_)
        by_cases q327 : x313 = x323
        · refine W.q (v := .bool false) (hr := (r_neqB (m := x313) (n := x323) rfl (by kernel_rfl) (by kernel_rfl) (by kernel_rfl) (by rw [(beq_iff_eq.2 q327)]; rfl))) (h := ?_)
          refine W.endF 48 [(0, .agg #[.int .i64 m, .slice A n c]), (1, .slice A2 n2 c2), (2, .int .i64 a), (3, .pointer (some ⟨b2, 0, none⟩)), (6, .slice none 0 0), (7, .pointer (some ⟨pb259, 0, none⟩)), (8, .slice A0_8 n0_8 c0_8), (9, .int .i64 ((i : Nat) : Int)), (10, .pointer (some ⟨b290, 0, none⟩)), (19, .slice A2 n2 c2), (20, .int .i64 ((n2 : Nat) : Int)), (21, .int .i64 ((i : Nat) : Int)), (22, .bool true), (41, .bool false)] (fun U328 => ?_)
          have x6 := SG.blk s319 x6 (by simp)
          have x303 := SG.blk s319 x303 (by simp)
          have c329 := (SG.belowR c307 s319 (fun kq e => by cases e))
          have rd330 := Rd.kept rd308 (SG.below s319)
          refine h30 _ _ ?_
          refine wp_cond_false (by kernel_rfl) ?_
          refine wp_skip ?_
          refine h28 _ _ ?_
          refine W.region_quiet [(0, false), (1, false)] (by kernel_rfl) ?_
          refine W.q (v := .int .i64 ((i + 1 : Nat) : Int)) (hr := (r_add (m := ((i : Nat) : Int)) (n := 1) (z := ((i + 1 : Nat) : Int)) rfl (by kernel_rfl) (by kernel_rfl) (by omega) (by omega))) (h := ?_)
          refine W.mv (v := .int .i64 ((i + 1 : Nat) : Int)) (h := ?_)
          refine W.endF 48 [(0, .agg #[.int .i64 m, .slice A n c]), (1, .slice A2 n2 c2), (2, .int .i64 a), (3, .pointer (some ⟨b2, 0, none⟩)), (6, .slice none 0 0), (7, .pointer (some ⟨pb259, 0, none⟩)), (8, .slice A0_8 n0_8 c0_8), (9, .int .i64 ((i : Nat) : Int)), (10, .pointer (some ⟨b290, 0, none⟩)), (19, .slice A2 n2 c2), (20, .int .i64 ((n2 : Nat) : Int)), (21, .int .i64 ((i + 1 : Nat) : Int)), (22, .bool true), (41, .bool false)] (fun U331 => ?_)
          exact h25 _ _ _ (by omega : (n2 - (i + 1)) < _) ⟨i + 1, A0_8, n0_8, c0_8, (fun iU9 => lk [(0, .agg #[.int .i64 m, .slice A n c]), (1, .slice A2 n2 c2), (2, .int .i64 a), (3, .pointer (some ⟨b2, 0, none⟩)), (6, .slice none 0 0), (7, .pointer (some ⟨pb259, 0, none⟩)), (8, .slice A0_8 n0_8 c0_8), (9, .int .i64 ((i : Nat) : Int)), (10, .pointer (some ⟨b290, 0, none⟩)), (19, .slice A2 n2 c2), (20, .int .i64 ((n2 : Nat) : Int)), (21, .int .i64 ((i + 1 : Nat) : Int)), (22, .bool true), (41, .bool false)] iU9 (U331 iU9)), (by kernel_rfl), rfl, (by omega), (by omega), x6, (by rw [aroundI_no hx281 (by have h9 := wet_eqI (b := x280.node) hx314 (by omega); have h8 := wet_eqI (b := 9 + findL ps x280.pipe) hx324 (by omega); rw [← h9, ← h8]; exact q327)]; exact ho320), nb0_8_b2, rd330, sp0_7_8, c329⟩
        · refine W.q (v := .bool true) (hr := (r_neqB (m := x313) (n := x323) rfl (by kernel_rfl) (by kernel_rfl) (by kernel_rfl) (by rw [(beq_eq_false_iff_ne.2 q327)]; rfl))) (h := ?_)
          refine W.endF 48 [(0, .agg #[.int .i64 m, .slice A n c]), (1, .slice A2 n2 c2), (2, .int .i64 a), (3, .pointer (some ⟨b2, 0, none⟩)), (6, .slice none 0 0), (7, .pointer (some ⟨pb259, 0, none⟩)), (8, .slice A0_8 n0_8 c0_8), (9, .int .i64 ((i : Nat) : Int)), (10, .pointer (some ⟨b290, 0, none⟩)), (19, .slice A2 n2 c2), (20, .int .i64 ((n2 : Nat) : Int)), (21, .int .i64 ((i : Nat) : Int)), (22, .bool true), (41, .bool true)] (fun U332 => ?_)
          have x6 := SG.blk s319 x6 (by simp)
          have x303 := SG.blk s319 x303 (by simp)
          have c333 := (SG.belowR c307 s319 (fun kq e => by cases e))
          have rd334 := Rd.kept rd308 (SG.below s319)
          refine h30 _ _ ?_
          refine wp_cond_true (by kernel_rfl) ?_
          refine W.region_plain (row := (Value.ownBlock (.slice A0_8 n0_8 c0_8))) [(0, false), (1, false), (2, true), (3, true), (4, false)] (by kernel_rfl) ?_
          have s335 := SG.self w318 (Value.ownBlock (.slice A0_8 n0_8 c0_8))
          refine W.mv (v := .slice A0_8 n0_8 c0_8) (h := ?_)
          refine W.mv (v := .int .i64 ((i : Nat) : Int)) (h := ?_)
          refine W.sn (fun b => .slice (some ⟨b, 0, none⟩) 1 1) #[.int .i64 ((i : Nat) : Int)] 3 s335 rfl (by kernel_rfl) rfl (fun _ => by kernel_rfl) (fun b336 w337 hb338 k339 x340 s341 => ?_)
          have lo342 : w.heap.size ≤ b336 := by have := ((SG.belowR c333 s335 (fun kq e => (World.ownsRow.lt ho320 kq e).1))).size; omega
          have sp343 : Sp (some ⟨pb259, 0, none⟩) 19 (some b336) := sp_new rd334 (by have := World.grownBy.size s335; have := hb338; omega)
          have ne344 : b2 ≠ b336 := by have := blk_lt x6; have := World.grownBy.size s335; omega
          have ne345 : b290 ≠ b336 := by have := blk_lt x303; have := World.grownBy.size s335; omega
          have nb346 : Nb b336 (.slice A0_8 n0_8 c0_8) := nb_hi ho320 (Nat.le_of_eq hb338)
          have ho347 := own_kept ho320 k339
          refine W.sap (e := 3) (size := 1) (base := w.heap.size) (m := 1) (v := .slice A0_8 n0_8 c0_8) (c := 1) s341 rfl rfl rfl rfl (by kernel_rfl) (by kernel_rfl) (by kernel_rfl) ho347 x340 (by kernel_rfl) (by kernel_rfl) (by omega) (by omega) (by have := ((SG.belowR c333 s341 (fun kq e => (World.ownsRow.lt ho320 kq e).1))).size; omega) (.inl rfl) (fun g348 cap349 w350 ho351 hg352 hat353 hlt354 s355 => ?_)
          have nb356 : Nb b2 (.slice (some ⟨g348, 0, none⟩) (n0_8 + 1) cap349) := nb_app nb0_8_b2 (Nat.lt_of_lt_of_le (blk_lt x6) (World.grownBy.size s341)) hat353
          have nb357 : Nb b290 (.slice (some ⟨g348, 0, none⟩) (n0_8 + 1) cap349) := nb_app nb299 (Nat.lt_of_lt_of_le (blk_lt x303) (World.grownBy.size s341)) hat353
          have nb358 : Nb b336 (.slice (some ⟨g348, 0, none⟩) (n0_8 + 1) cap349) := nb_app nb346 (blk_lt x340) hat353
          have x340 := (hg352.block _ (blk_lt x340) nb346).trans x340
          have ho351 := own_snoc ho351
          have sp359 := sp_app (v' := .slice (some ⟨g348, 0, none⟩) (n0_8 + 1) cap349) sp0_7_8 rd334 (World.grownBy.size s341) (hat3 (v := .slice A0_8 n0_8 c0_8) hat353)
          refine W.as (v := .slice (some ⟨g348, 0, none⟩) (n0_8 + 1) cap349) (h := ?_)
          refine W.endF 48 [(0, .agg #[.int .i64 m, .slice A n c]), (1, .slice A2 n2 c2), (2, .int .i64 a), (3, .pointer (some ⟨b2, 0, none⟩)), (6, .slice none 0 0), (7, .pointer (some ⟨pb259, 0, none⟩)), (8, .slice (some ⟨g348, 0, none⟩) (n0_8 + 1) cap349), (9, .int .i64 ((i : Nat) : Int)), (10, .pointer (some ⟨b290, 0, none⟩)), (19, .slice A2 n2 c2), (20, .int .i64 ((n2 : Nat) : Int)), (21, .int .i64 ((i : Nat) : Int)), (22, .bool true), (41, .bool true)] (fun U360 => ?_)
          have x6 := SG.blk s355 x6 nb0_8_b2
          have x303 := SG.blk s355 x303 nb299
          have c361 := (SG.belowR c333 s355 (fun kq e => (World.ownsRow.lt ho320 kq e).1))
          have rd362 := rd_sep rd334 s355 sp0_7_8
          refine h28 _ _ ?_
          refine W.region_quiet [(0, false), (1, false)] (by kernel_rfl) ?_
          refine W.q (v := .int .i64 ((i + 1 : Nat) : Int)) (hr := (r_add (m := ((i : Nat) : Int)) (n := 1) (z := ((i + 1 : Nat) : Int)) rfl (by kernel_rfl) (by kernel_rfl) (by omega) (by omega))) (h := ?_)
          refine W.mv (v := .int .i64 ((i + 1 : Nat) : Int)) (h := ?_)
          refine W.endF 48 [(0, .agg #[.int .i64 m, .slice A n c]), (1, .slice A2 n2 c2), (2, .int .i64 a), (3, .pointer (some ⟨b2, 0, none⟩)), (6, .slice none 0 0), (7, .pointer (some ⟨pb259, 0, none⟩)), (8, .slice (some ⟨g348, 0, none⟩) (n0_8 + 1) cap349), (9, .int .i64 ((i : Nat) : Int)), (10, .pointer (some ⟨b290, 0, none⟩)), (19, .slice A2 n2 c2), (20, .int .i64 ((n2 : Nat) : Int)), (21, .int .i64 ((i + 1 : Nat) : Int)), (22, .bool true), (41, .bool true)] (fun U363 => ?_)
          exact h25 _ _ _ (by omega : (n2 - (i + 1)) < _) ⟨i + 1, (some ⟨g348, 0, none⟩), (n0_8 + 1), cap349, (fun iU9 => lk [(0, .agg #[.int .i64 m, .slice A n c]), (1, .slice A2 n2 c2), (2, .int .i64 a), (3, .pointer (some ⟨b2, 0, none⟩)), (6, .slice none 0 0), (7, .pointer (some ⟨pb259, 0, none⟩)), (8, .slice (some ⟨g348, 0, none⟩) (n0_8 + 1) cap349), (9, .int .i64 ((i : Nat) : Int)), (10, .pointer (some ⟨b290, 0, none⟩)), (19, .slice A2 n2 c2), (20, .int .i64 ((n2 : Nat) : Int)), (21, .int .i64 ((i + 1 : Nat) : Int)), (22, .bool true), (41, .bool true)] iU9 (U363 iU9)), (by kernel_rfl), rfl, (by omega), (by omega), x6, (by rw [aroundI_yes hx281 (by have h9 := wet_eqI (b := x280.node) hx314 (by omega); have h8 := wet_eqI (b := 9 + findL ps x280.pipe) hx324 (by omega); rw [← h9, ← h8]; exact q327)]; exact ho351), nb356, rd362, sp359, c361⟩
      · refine W.q (v := .bool false) (hr := (r_lss (m := ((i : Nat) : Int)) (n := ((n2 : Nat) : Int)) rfl (by kernel_rfl) (by kernel_rfl) (decide_eq_false q277))) (h := ?_)
        refine W.endF 48 [(0, .agg #[.int .i64 m, .slice A n c]), (1, .slice A2 n2 c2), (2, .int .i64 a), (3, .pointer (some ⟨b2, 0, none⟩)), (6, .slice none 0 0), (7, .pointer (some ⟨pb259, 0, none⟩)), (8, .slice A0_8 n0_8 c0_8), (19, .slice A2 n2 c2), (20, .int .i64 ((n2 : Nat) : Int)), (21, .int .i64 ((i : Nat) : Int)), (22, .bool false)] (fun U364 => ?_)
        refine h26 _ _ ?_
        refine wp_seq_k (fun K31 h31 => ?_)
        refine wp_cond_false (by kernel_rfl) ?_
        refine wp_exit ?_
        refine h23 _ _ ?_
        refine wp_seq_k (fun K32 h32 => ?_)
        refine W.region_quiet [(0, false), (1, false)] (by kernel_rfl) ?_
        refine W.mv (v := .slice A0_8 n0_8 c0_8) (h := ?_)
        refine W.as (v := .slice A0_8 n0_8 c0_8) (h := ?_)
        refine W.endF 48 [(0, .agg #[.int .i64 m, .slice A n c]), (1, .slice A2 n2 c2), (2, .int .i64 a), (3, .pointer (some ⟨b2, 0, none⟩)), (6, .slice A0_8 n0_8 c0_8), (7, .pointer (some ⟨pb259, 0, none⟩)), (8, .slice A0_8 n0_8 c0_8), (19, .slice A2 n2 c2), (20, .int .i64 ((n2 : Nat) : Int)), (21, .int .i64 ((i : Nat) : Int)), (22, .bool false)] (fun U365 => ?_)
        refine h32 _ _ ?_
        refine wp_ret ?_
        try simp only [Exit.then]
        refine ret1 (v := .slice A0_8 n0_8 c0_8) rfl (by kernel_rfl) ?_
        exact ⟨_, _, _, rfl, (by rw [show vs.length = i by omega]; exact ho0_8), c276⟩
  · refine W.sn (fun b => .slice (some ⟨b, 0, none⟩) 0 0) #[] 3 s13 rfl (by kernel_rfl) rfl (fun _ => by kernel_rfl) (fun b366 w367 hb368 k369 x370 s371 => ?_)
    have lo372 : w.heap.size ≤ b366 := by have := ((SG.belowR c10 s13 (fun kq e => by cases e))).size; omega
    have ne373 : b2 ≠ b366 := by have := blk_lt x6; have := World.grownBy.size s13; omega
    refine W.sc (vs := [.agg #[.int .i64 m, .slice A n c], .int .i64 a]) rfl rfl (by kernel_rfl) (by kernel_rfl) (by kernel_rfl) rfl (pipeIndex_any m A n c ps a _ (Rd.kept ha (SG.belowR c10 s371 (fun kq e => by cases e))) (by omega)) ?_
    rintro e w375 ⟨rfl, b374⟩
    have s376 := SG.of_below s371 b374
    refine ⟨_, rfl, s376, ?_⟩
    have x370 := (b374.block _ (blk_lt x370)).trans x370
    refine W.sc (vs := [.int .i64 (findL ps a)]) rfl rfl (by kernel_rfl) (by kernel_rfl) (by kernel_rfl) rfl (element_any (findL ps a) _ (by omega)) ?_
    rintro e w' ⟨rfl, rfl⟩
    refine ⟨_, rfl, s376, ?_⟩
    have lb384 := blk_lt x370
    refine W.sc (vs := [.agg #[.int .i64 m, .slice A n c], .slice A2 n2 c2, .int .i64 (9 + (findL ps a))]) rfl rfl (by kernel_rfl) (by kernel_rfl) (by kernel_rfl) rfl (segmentOf_any m A n c ps A2 n2 c2 vs (9 + (findL ps a)) (9 + (findL ps a)).toNat _ (Rd.kept ha (SG.belowR c10 s376 (fun kq e => by cases e))) (Rd.kept hb (SG.belowR c10 s376 (fun kq e => by cases e))) (by omega) (by omega) hp (by omega) (by omega) (by omega) (by omega)) ?_
    rintro e w386 ⟨pb379, rfl, lo383, rd380, b385⟩
    have s387 := SG.of_below s376 b385
    refine ⟨_, rfl, s387, ?_⟩
    have x370 := (b385.block _ (blk_lt x370)).trans x370
    have sp388 : Sp (some ⟨pb379, 0, none⟩) 19 (some b2) := sp_ptrB (Nat.lt_of_lt_of_le (Nat.lt_of_lt_of_le (blk_lt x6) (World.grownBy.size s376)) lo383)
    have sp389 : Sp (some ⟨pb379, 0, none⟩) 19 (some b366) := sp_ptrB (Nat.lt_of_lt_of_le lb384 lo383)
    have hl381 := rd_bools_len rd380
    rw [wetL_len] at hl381
    have hl381 : (wetL (linked ps (openQ vs false)) (9 + (findL ps a))).length = 19 := wetL_len _ _
    refine W.as (v := .pointer (some ⟨pb379, 0, none⟩)) (h := ?_)
    refine W.as (v := .slice (some ⟨b366, 0, none⟩) 0 0) (h := ?_)
    refine W.endF 48 [(0, .agg #[.int .i64 m, .slice A n c]), (1, .slice A2 n2 c2), (2, .int .i64 a), (3, .pointer (some ⟨b2, 0, none⟩)), (6, .slice none 0 0), (7, .pointer (some ⟨pb379, 0, none⟩)), (8, .slice (some ⟨b366, 0, none⟩) 0 0)] (fun U390 => ?_)
    have x6 := SG.blk s387 x6 (by simp)
    have c391 := (SG.belowR c10 s387 (fun kq e => by cases e))
    refine h2 _ _ ?_
    refine wp_seq_k (fun K33 h33 => ?_)
    refine wp_seq_k (fun K34 h34 => ?_)
    refine W.region_quiet [(0, false), (1, false), (2, false)] (by kernel_rfl) ?_
    refine W.mv (v := .slice A2 n2 c2) (h := ?_)
    refine W.q (v := .int .i64 ((n2 : Nat) : Int)) (hr := (r_len (A := A2) (n := n2) (c := c2) rfl (by kernel_rfl) (by kernel_rfl))) (h := ?_)
    refine W.mv (v := .int .i64 0) (h := ?_)
    refine W.endF 48 [(0, .agg #[.int .i64 m, .slice A n c]), (1, .slice A2 n2 c2), (2, .int .i64 a), (3, .pointer (some ⟨b2, 0, none⟩)), (6, .slice none 0 0), (7, .pointer (some ⟨pb379, 0, none⟩)), (8, .slice (some ⟨b366, 0, none⟩) 0 0), (19, .slice A2 n2 c2), (20, .int .i64 ((n2 : Nat) : Int)), (21, .int .i64 0)] (fun U392 => ?_)
    refine h34 _ _ ?_
    refine wp_block ?_
    have ho393 := own_empty (base := w.heap.size) (size := 1) x370 lo372
    replace ho393 : World.ownsRow _ _ _ _ _ _ (intsV []) := ho393
    have sp394 := sp_own (n' := 0) (c := 0) sp389
    have nb395 : Nb b2 (.slice (some ⟨b366, 0, none⟩) 0 0) := nb_new (by have := ne373; omega)
    refine loopK (fun am0 aa0 wl0 => ∃ (i : Nat) (A0_8 : Option Addr) (n0_8 : Nat) (c0_8 : Nat) (U0 : Nat → Value), aa0 = ⟨(fr U0 [(0, .agg #[.int .i64 m, .slice A n c]), (1, .slice A2 n2 c2), (2, .int .i64 a), (3, .pointer (some ⟨b2, 0, none⟩)), (6, .slice none 0 0), (7, .pointer (some ⟨pb379, 0, none⟩)), (8, .slice A0_8 n0_8 c0_8), (19, .slice A2 n2 c2), (20, .int .i64 ((n2 : Nat) : Int)), (21, .int .i64 ((i : Nat) : Int))] 48 0).toArray, []⟩ ∧ (am0 = n2 - i) ∧ (i ≤ n2) ∧ (n0_8 ≤ i) ∧ (wl0.heap[b2]? = some (.cells #[.int .i64 m, .slice A n c] 32 (0, 0))) ∧ (wl0.ownsRow w.heap.size 3 1 (.slice A0_8 n0_8 c0_8) n0_8 (intsV (aroundI ps vs (9 + findL ps a) i))) ∧ (Nb b2 (.slice A0_8 n0_8 c0_8)) ∧ (Rd wl0 1 (some ⟨pb379, 0, none⟩) 19 (boolsV (wetL (linked ps (openQ vs false)) (9 + (findL ps a))))) ∧ (Sp (some ⟨pb379, 0, none⟩) 19 (Value.ownBlock (.slice A0_8 n0_8 c0_8))) ∧ (Below w.heap.size w wl0)) (n2 - 0) ?_ ?_
    · exact ⟨0, (some ⟨b366, 0, none⟩), 0, 0, (fun iU9 => lk [(0, .agg #[.int .i64 m, .slice A n c]), (1, .slice A2 n2 c2), (2, .int .i64 a), (3, .pointer (some ⟨b2, 0, none⟩)), (6, .slice none 0 0), (7, .pointer (some ⟨pb379, 0, none⟩)), (8, .slice (some ⟨b366, 0, none⟩) 0 0), (19, .slice A2 n2 c2), (20, .int .i64 ((n2 : Nat) : Int)), (21, .int .i64 0)] iU9 (U392 iU9)), (by kernel_rfl), rfl, (Nat.zero_le _), (Nat.zero_le _), x6, ho393, nb395, rd380, sp394, c391⟩
    rintro am0 aa0 wl0 K35 h35 ⟨i, A0_8, n0_8, c0_8, U0, rfl, rfl, hi, hb8, x6, ho0_8, nb0_8_b2, rd0_7, sp0_7_8, c396⟩
    refine wp_seq_k (fun K36 h36 => ?_)
    refine W.region_quiet [(0, false)] (by kernel_rfl) ?_
    by_cases q397 : (((i : Nat) : Int) : Int) < (((n2 : Nat) : Int) : Int)
    · refine W.q (v := .bool true) (hr := (r_lss (m := ((i : Nat) : Int)) (n := ((n2 : Nat) : Int)) rfl (by kernel_rfl) (by kernel_rfl) (decide_eq_true q397))) (h := ?_)
      refine W.endF 48 [(0, .agg #[.int .i64 m, .slice A n c]), (1, .slice A2 n2 c2), (2, .int .i64 a), (3, .pointer (some ⟨b2, 0, none⟩)), (6, .slice none 0 0), (7, .pointer (some ⟨pb379, 0, none⟩)), (8, .slice A0_8 n0_8 c0_8), (19, .slice A2 n2 c2), (20, .int .i64 ((n2 : Nat) : Int)), (21, .int .i64 ((i : Nat) : Int)), (22, .bool true)] (fun U398 => ?_)
      refine h36 _ _ ?_
      refine wp_seq_k (fun K37 h37 => ?_)
      refine wp_cond_true (by kernel_rfl) ?_
      refine wp_skip ?_
      refine h37 _ _ ?_
      refine wp_seq_k (fun K38 h38 => ?_)
      refine wp_block ?_
      refine wp_seq_k (fun K39 h39 => ?_)
      refine W.region_plain (row := none) [(0, false), (1, false), (2, false), (3, true), (4, false), (5, true)] (by kernel_rfl) ?_
      have s399 := SG.self wl0 none
      refine W.mv (v := .int .i64 ((i : Nat) : Int)) (h := ?_)
      obtain ⟨x400, hx401⟩ := get_of (zs := vs) (k := i) (by have := hl2; omega)
      obtain ⟨b402, o403, hA404, hb405, hc406, hc407, hc408, hc409⟩ := Rd.elValve hb hx401
      refine W.q (v := .pointer (some ⟨b402, o403 + i * 4, none⟩)) (hr := (r_idx (n := n2) (c := c2) (k := i) rfl (by kernel_rfl) hA404 (by kernel_rfl) (by kernel_rfl) (by have := hl2; omega))) (h := ?_)
      refine W.q (v := .agg #[.int .i64 x400.id, .int .i64 x400.pipe, .int .i64 x400.node, .bool x400.shut]) (hr := (r_load4 rfl (by kernel_rfl) (by kernel_rfl) (by kernel_rfl) (sgS (later c396 hc406) (by simp)) (sgS (later c396 hc407) (by simp)) (sgS (later c396 hc408) (by simp)) (sgS (later c396 hc409) (by simp)))) (h := ?_)
      refine W.sn (fun b => .pointer (some ⟨b, 0, none⟩)) #[.int .i64 0, .int .i64 0, .int .i64 0, .bool false] 60 s399 rfl (by kernel_rfl) rfl (fun _ => by kernel_rfl) (fun b410 w411 hb412 k413 x414 s415 => ?_)
      have lo416 : w.heap.size ≤ b410 := by have := ((SG.belowR c396 s399 (fun kq e => by cases e))).size; omega
      have sp417 : Sp (some ⟨pb379, 0, none⟩) 19 (some b410) := sp_new rd0_7 (by have := World.grownBy.size s399; have := hb412; omega)
      have ne418 : b2 ≠ b410 := by have := blk_lt x6; have := World.grownBy.size s399; omega
      have nb419 : Nb b410 (.slice A0_8 n0_8 c0_8) := nb_hi ho0_8 (Nat.le_of_eq hb412)
      have ho420 := own_kept ho0_8 k413
      refine W.as (v := .int .i64 ((i : Nat) : Int)) (h := ?_)
      refine W.ss (v := .agg #[.int .i64 x400.id, .int .i64 x400.pipe, .int .i64 x400.node, .bool x400.shut]) (j := 0) (news := [.int .i64 x400.id, .int .i64 x400.pipe, .int .i64 x400.node, .bool x400.shut]) (cs' := #[.int .i64 x400.id, .int .i64 x400.pipe, .int .i64 x400.node, .bool x400.shut]) s415 rfl (by kernel_rfl) rfl rfl (by kernel_rfl) (by kernel_rfl) x414 (by kernel_rfl) (by kernel_rfl) (by simp) (by kernel_rfl) (by kernel_rfl) (.inr (by have := World.grownBy.size s399; have := hb412; omega)) (fun w421 g422 x423 s424 => ?_)
      have ho425 := own_grown ho420 g422 (fun j e1 e2 => by cases e2; exact nb419 e1.symm)
      refine W.endF 48 [(0, .agg #[.int .i64 m, .slice A n c]), (1, .slice A2 n2 c2), (2, .int .i64 a), (3, .pointer (some ⟨b2, 0, none⟩)), (6, .slice none 0 0), (7, .pointer (some ⟨pb379, 0, none⟩)), (8, .slice A0_8 n0_8 c0_8), (9, .int .i64 ((i : Nat) : Int)), (10, .pointer (some ⟨b410, 0, none⟩)), (19, .slice A2 n2 c2), (20, .int .i64 ((n2 : Nat) : Int)), (21, .int .i64 ((i : Nat) : Int)), (22, .bool true)] (fun U426 => ?_)
      have x6 := SG.blk s424 x6 (by simp)
      have c427 := (SG.belowR c396 s424 (fun kq e => by cases e))
      have rd428 := Rd.kept rd0_7 (SG.below s424)
      refine h39 _ _ ?_
      refine wp_seq_k (fun K40 h40 => ?_)
      refine W.region_sch (row := none) (Sch.of [(0, false), (1, false), (2, false), (3, false), (4, false), (5, false), (6, false), (7, false), (8, false), (9, false), (12, false), (10, true), (11, true), (13, false), (14, false), (15, false)]) (by kernel_rfl) (by kernel_rfl) (fun _ d _ _ _ h => by cases d <;> exact h) (by kernel_rfl) (fun w429 e430 s431 => ?_)
      have ho432 := own_heap ho425 e430
      refine W.mv (v := .pointer (some ⟨pb379, 0, none⟩)) (h := ?_)
      refine W.q (v := .pointer (some ⟨b410, 2, none⟩)) (hr := (r_field (k := 2) rfl (by kernel_rfl) (by kernel_rfl))) (h := ?_)
      refine W.ld (v := .int .i64 x400.node) (hc := (sgS (blk_cell (j := 2) x423 (by kernel_rfl)) (by simp))) (h := ?_)
      refine W.q (v := .pointer (some ⟨pb379, 0, none⟩)) (hr := (r_nilCheck rfl (by kernel_rfl))) (h := ?_)
      obtain ⟨kz, pz, ekz, hkz, hpz, hnz⟩ := hv9.place x400 (List.mem_of_getElem? hx401)
      have hgz := hg.at hpz
      obtain ⟨x433, hx434⟩ := get_of (zs := (wetL (linked ps (openQ vs false)) (9 + (findL ps a)))) (k := x400.node.toNat) (by have := hl381; omega)
      obtain ⟨hb435, hc436⟩ := Rd.elBool rd428 hx434
      refine W.q (v := .pointer (some ⟨pb379, x400.node.toNat, none⟩)) (hr := (r_idxA (len := 19) (k := x400.node.toNat) rfl (by kernel_rfl) (evk (z := x400.node) (by kernel_rfl) (by omega)) (by kernel_rfl) (by omega))) (h := ?_)
      refine W.ld (v := .bool x433) (hc := (sgS hc436 (by simp))) (h := ?_)
      refine W.mv (v := .pointer (some ⟨pb379, 0, none⟩)) (h := ?_)
      refine W.q (v := .agg #[.int .i64 m, .slice A n c]) (hr := (r_load2 rfl (by kernel_rfl) (by kernel_rfl) (by kernel_rfl) (sgS (blk_cell (j := 0) x6 (by kernel_rfl)) (by simp)) (sgS (blk_cell (j := 1) x6 (by kernel_rfl)) (by simp)))) (h := ?_)
      refine W.q (v := .pointer (some ⟨b410, 1, none⟩)) (hr := (r_field (k := 1) rfl (by kernel_rfl) (by kernel_rfl))) (h := ?_)
      refine W.ld (v := .int .i64 x400.pipe) (hc := (sgS (blk_cell (j := 1) x423 (by kernel_rfl)) (by simp))) (h := ?_)
      refine W.q (v := .pointer (some ⟨pb379, 0, none⟩)) (hr := (r_nilCheck rfl (by kernel_rfl))) (h := ?_)
      refine W.sc (vs := [.agg #[.int .i64 m, .slice A n c], .int .i64 x400.pipe]) rfl rfl (by kernel_rfl) (by kernel_rfl) (by kernel_rfl) rfl (pipeIndex_any m A n c ps x400.pipe _ (Rd.kept ha (SG.belowR c427 s431 (fun kq e => by cases e))) (by omega)) ?_
      rintro e w438 ⟨rfl, b437⟩
      have s439 := SG.of_below s431 b437
      refine ⟨_, rfl, s439, ?_⟩
      have ho440 := own_kept ho432 b437
      refine W.sc (vs := [.int .i64 (findL ps x400.pipe)]) rfl rfl (by kernel_rfl) (by kernel_rfl) (by kernel_rfl) rfl (element_any (findL ps x400.pipe) _ (by omega)) ?_
      rintro e w' ⟨rfl, rfl⟩
      refine ⟨_, rfl, s439, ?_⟩
      obtain ⟨x443, hx444⟩ := get_of (zs := (wetL (linked ps (openQ vs false)) (9 + (findL ps a)))) (k := (9 + kz)) (by have := hl381; omega)
      obtain ⟨hb445, hc446⟩ := Rd.elBool rd428 hx444
      refine W.q (v := .pointer (some ⟨pb379, (9 + kz), none⟩)) (hr := (r_idxA (len := 19) (k := (9 + kz)) rfl (by kernel_rfl) (evk (z := 9 + (findL ps x400.pipe)) (by kernel_rfl) (by omega)) (by kernel_rfl) (by omega))) (h := ?_)
      refine W.ld (v := .bool x443) (hc := (sgS hc446 (by simp))) (h := ?_)
      by_cases q447 : x433 = x443
      · refine W.q (v := .bool false) (hr := (r_neqB (m := x433) (n := x443) rfl (by kernel_rfl) (by kernel_rfl) (by kernel_rfl) (by rw [(beq_iff_eq.2 q447)]; rfl))) (h := ?_)
        refine W.endF 48 [(0, .agg #[.int .i64 m, .slice A n c]), (1, .slice A2 n2 c2), (2, .int .i64 a), (3, .pointer (some ⟨b2, 0, none⟩)), (6, .slice none 0 0), (7, .pointer (some ⟨pb379, 0, none⟩)), (8, .slice A0_8 n0_8 c0_8), (9, .int .i64 ((i : Nat) : Int)), (10, .pointer (some ⟨b410, 0, none⟩)), (19, .slice A2 n2 c2), (20, .int .i64 ((n2 : Nat) : Int)), (21, .int .i64 ((i : Nat) : Int)), (22, .bool true), (41, .bool false)] (fun U448 => ?_)
        have x6 := SG.blk s439 x6 (by simp)
        have x423 := SG.blk s439 x423 (by simp)
        have c449 := (SG.belowR c427 s439 (fun kq e => by cases e))
        have rd450 := Rd.kept rd428 (SG.below s439)
        refine h40 _ _ ?_
        refine wp_cond_false (by kernel_rfl) ?_
        refine wp_skip ?_
        refine h38 _ _ ?_
        refine W.region_quiet [(0, false), (1, false)] (by kernel_rfl) ?_
        refine W.q (v := .int .i64 ((i + 1 : Nat) : Int)) (hr := (r_add (m := ((i : Nat) : Int)) (n := 1) (z := ((i + 1 : Nat) : Int)) rfl (by kernel_rfl) (by kernel_rfl) (by omega) (by omega))) (h := ?_)
        refine W.mv (v := .int .i64 ((i + 1 : Nat) : Int)) (h := ?_)
        refine W.endF 48 [(0, .agg #[.int .i64 m, .slice A n c]), (1, .slice A2 n2 c2), (2, .int .i64 a), (3, .pointer (some ⟨b2, 0, none⟩)), (6, .slice none 0 0), (7, .pointer (some ⟨pb379, 0, none⟩)), (8, .slice A0_8 n0_8 c0_8), (9, .int .i64 ((i : Nat) : Int)), (10, .pointer (some ⟨b410, 0, none⟩)), (19, .slice A2 n2 c2), (20, .int .i64 ((n2 : Nat) : Int)), (21, .int .i64 ((i + 1 : Nat) : Int)), (22, .bool true), (41, .bool false)] (fun U451 => ?_)
        exact h35 _ _ _ (by omega : (n2 - (i + 1)) < _) ⟨i + 1, A0_8, n0_8, c0_8, (fun iU9 => lk [(0, .agg #[.int .i64 m, .slice A n c]), (1, .slice A2 n2 c2), (2, .int .i64 a), (3, .pointer (some ⟨b2, 0, none⟩)), (6, .slice none 0 0), (7, .pointer (some ⟨pb379, 0, none⟩)), (8, .slice A0_8 n0_8 c0_8), (9, .int .i64 ((i : Nat) : Int)), (10, .pointer (some ⟨b410, 0, none⟩)), (19, .slice A2 n2 c2), (20, .int .i64 ((n2 : Nat) : Int)), (21, .int .i64 ((i + 1 : Nat) : Int)), (22, .bool true), (41, .bool false)] iU9 (U451 iU9)), (by kernel_rfl), rfl, (by omega), (by omega), x6, (by rw [aroundI_no hx401 (by have h9 := wet_eqI (b := x400.node) hx434 (by omega); have h8 := wet_eqI (b := 9 + findL ps x400.pipe) hx444 (by omega); rw [← h9, ← h8]; exact q447)]; exact ho440), nb0_8_b2, rd450, sp0_7_8, c449⟩
      · refine W.q (v := .bool true) (hr := (r_neqB (m := x433) (n := x443) rfl (by kernel_rfl) (by kernel_rfl) (by kernel_rfl) (by rw [(beq_eq_false_iff_ne.2 q447)]; rfl))) (h := ?_)
        refine W.endF 48 [(0, .agg #[.int .i64 m, .slice A n c]), (1, .slice A2 n2 c2), (2, .int .i64 a), (3, .pointer (some ⟨b2, 0, none⟩)), (6, .slice none 0 0), (7, .pointer (some ⟨pb379, 0, none⟩)), (8, .slice A0_8 n0_8 c0_8), (9, .int .i64 ((i : Nat) : Int)), (10, .pointer (some ⟨b410, 0, none⟩)), (19, .slice A2 n2 c2), (20, .int .i64 ((n2 : Nat) : Int)), (21, .int .i64 ((i : Nat) : Int)), (22, .bool true), (41, .bool true)] (fun U452 => ?_)
        have x6 := SG.blk s439 x6 (by simp)
        have x423 := SG.blk s439 x423 (by simp)
        have c453 := (SG.belowR c427 s439 (fun kq e => by cases e))
        have rd454 := Rd.kept rd428 (SG.below s439)
        refine h40 _ _ ?_
        refine wp_cond_true (by kernel_rfl) ?_
        refine W.region_plain (row := (Value.ownBlock (.slice A0_8 n0_8 c0_8))) [(0, false), (1, false), (2, true), (3, true), (4, false)] (by kernel_rfl) ?_
        have s455 := SG.self w438 (Value.ownBlock (.slice A0_8 n0_8 c0_8))
        refine W.mv (v := .slice A0_8 n0_8 c0_8) (h := ?_)
        refine W.mv (v := .int .i64 ((i : Nat) : Int)) (h := ?_)
        refine W.sn (fun b => .slice (some ⟨b, 0, none⟩) 1 1) #[.int .i64 ((i : Nat) : Int)] 3 s455 rfl (by kernel_rfl) rfl (fun _ => by kernel_rfl) (fun b456 w457 hb458 k459 x460 s461 => ?_)
        have lo462 : w.heap.size ≤ b456 := by have := ((SG.belowR c453 s455 (fun kq e => (World.ownsRow.lt ho440 kq e).1))).size; omega
        have sp463 : Sp (some ⟨pb379, 0, none⟩) 19 (some b456) := sp_new rd454 (by have := World.grownBy.size s455; have := hb458; omega)
        have ne464 : b2 ≠ b456 := by have := blk_lt x6; have := World.grownBy.size s455; omega
        have ne465 : b410 ≠ b456 := by have := blk_lt x423; have := World.grownBy.size s455; omega
        have nb466 : Nb b456 (.slice A0_8 n0_8 c0_8) := nb_hi ho440 (Nat.le_of_eq hb458)
        have ho467 := own_kept ho440 k459
        refine W.sap (e := 3) (size := 1) (base := w.heap.size) (m := 1) (v := .slice A0_8 n0_8 c0_8) (c := 1) s461 rfl rfl rfl rfl (by kernel_rfl) (by kernel_rfl) (by kernel_rfl) ho467 x460 (by kernel_rfl) (by kernel_rfl) (by omega) (by omega) (by have := ((SG.belowR c453 s461 (fun kq e => (World.ownsRow.lt ho440 kq e).1))).size; omega) (.inl rfl) (fun g468 cap469 w470 ho471 hg472 hat473 hlt474 s475 => ?_)
        have nb476 : Nb b2 (.slice (some ⟨g468, 0, none⟩) (n0_8 + 1) cap469) := nb_app nb0_8_b2 (Nat.lt_of_lt_of_le (blk_lt x6) (World.grownBy.size s461)) hat473
        have nb477 : Nb b410 (.slice (some ⟨g468, 0, none⟩) (n0_8 + 1) cap469) := nb_app nb419 (Nat.lt_of_lt_of_le (blk_lt x423) (World.grownBy.size s461)) hat473
        have nb478 : Nb b456 (.slice (some ⟨g468, 0, none⟩) (n0_8 + 1) cap469) := nb_app nb466 (blk_lt x460) hat473
        have x460 := (hg472.block _ (blk_lt x460) nb466).trans x460
        have ho471 := own_snoc ho471
        have sp479 := sp_app (v' := .slice (some ⟨g468, 0, none⟩) (n0_8 + 1) cap469) sp0_7_8 rd454 (World.grownBy.size s461) (hat3 (v := .slice A0_8 n0_8 c0_8) hat473)
        refine W.as (v := .slice (some ⟨g468, 0, none⟩) (n0_8 + 1) cap469) (h := ?_)
        refine W.endF 48 [(0, .agg #[.int .i64 m, .slice A n c]), (1, .slice A2 n2 c2), (2, .int .i64 a), (3, .pointer (some ⟨b2, 0, none⟩)), (6, .slice none 0 0), (7, .pointer (some ⟨pb379, 0, none⟩)), (8, .slice (some ⟨g468, 0, none⟩) (n0_8 + 1) cap469), (9, .int .i64 ((i : Nat) : Int)), (10, .pointer (some ⟨b410, 0, none⟩)), (19, .slice A2 n2 c2), (20, .int .i64 ((n2 : Nat) : Int)), (21, .int .i64 ((i : Nat) : Int)), (22, .bool true), (41, .bool true)] (fun U480 => ?_)
        have x6 := SG.blk s475 x6 nb0_8_b2
        have x423 := SG.blk s475 x423 nb419
        have c481 := (SG.belowR c453 s475 (fun kq e => (World.ownsRow.lt ho440 kq e).1))
        have rd482 := rd_sep rd454 s475 sp0_7_8
        refine h38 _ _ ?_
        refine W.region_quiet [(0, false), (1, false)] (by kernel_rfl) ?_
        refine W.q (v := .int .i64 ((i + 1 : Nat) : Int)) (hr := (r_add (m := ((i : Nat) : Int)) (n := 1) (z := ((i + 1 : Nat) : Int)) rfl (by kernel_rfl) (by kernel_rfl) (by omega) (by omega))) (h := ?_)
        refine W.mv (v := .int .i64 ((i + 1 : Nat) : Int)) (h := ?_)
        refine W.endF 48 [(0, .agg #[.int .i64 m, .slice A n c]), (1, .slice A2 n2 c2), (2, .int .i64 a), (3, .pointer (some ⟨b2, 0, none⟩)), (6, .slice none 0 0), (7, .pointer (some ⟨pb379, 0, none⟩)), (8, .slice (some ⟨g468, 0, none⟩) (n0_8 + 1) cap469), (9, .int .i64 ((i : Nat) : Int)), (10, .pointer (some ⟨b410, 0, none⟩)), (19, .slice A2 n2 c2), (20, .int .i64 ((n2 : Nat) : Int)), (21, .int .i64 ((i + 1 : Nat) : Int)), (22, .bool true), (41, .bool true)] (fun U483 => ?_)
        exact h35 _ _ _ (by omega : (n2 - (i + 1)) < _) ⟨i + 1, (some ⟨g468, 0, none⟩), (n0_8 + 1), cap469, (fun iU9 => lk [(0, .agg #[.int .i64 m, .slice A n c]), (1, .slice A2 n2 c2), (2, .int .i64 a), (3, .pointer (some ⟨b2, 0, none⟩)), (6, .slice none 0 0), (7, .pointer (some ⟨pb379, 0, none⟩)), (8, .slice (some ⟨g468, 0, none⟩) (n0_8 + 1) cap469), (9, .int .i64 ((i : Nat) : Int)), (10, .pointer (some ⟨b410, 0, none⟩)), (19, .slice A2 n2 c2), (20, .int .i64 ((n2 : Nat) : Int)), (21, .int .i64 ((i + 1 : Nat) : Int)), (22, .bool true), (41, .bool true)] iU9 (U483 iU9)), (by kernel_rfl), rfl, (by omega), (by omega), x6, (by rw [aroundI_yes hx401 (by have h9 := wet_eqI (b := x400.node) hx434 (by omega); have h8 := wet_eqI (b := 9 + findL ps x400.pipe) hx444 (by omega); rw [← h9, ← h8]; exact q447)]; exact ho471), nb476, rd482, sp479, c481⟩
    · refine W.q (v := .bool false) (hr := (r_lss (m := ((i : Nat) : Int)) (n := ((n2 : Nat) : Int)) rfl (by kernel_rfl) (by kernel_rfl) (decide_eq_false q397))) (h := ?_)
      refine W.endF 48 [(0, .agg #[.int .i64 m, .slice A n c]), (1, .slice A2 n2 c2), (2, .int .i64 a), (3, .pointer (some ⟨b2, 0, none⟩)), (6, .slice none 0 0), (7, .pointer (some ⟨pb379, 0, none⟩)), (8, .slice A0_8 n0_8 c0_8), (19, .slice A2 n2 c2), (20, .int .i64 ((n2 : Nat) : Int)), (21, .int .i64 ((i : Nat) : Int)), (22, .bool false)] (fun U484 => ?_)
      refine h36 _ _ ?_
      refine wp_seq_k (fun K41 h41 => ?_)
      refine wp_cond_false (by kernel_rfl) ?_
      refine wp_exit ?_
      refine h33 _ _ ?_
      refine wp_seq_k (fun K42 h42 => ?_)
      refine W.region_quiet [(0, false), (1, false)] (by kernel_rfl) ?_
      refine W.mv (v := .slice A0_8 n0_8 c0_8) (h := ?_)
      refine W.as (v := .slice A0_8 n0_8 c0_8) (h := ?_)
      refine W.endF 48 [(0, .agg #[.int .i64 m, .slice A n c]), (1, .slice A2 n2 c2), (2, .int .i64 a), (3, .pointer (some ⟨b2, 0, none⟩)), (6, .slice A0_8 n0_8 c0_8), (7, .pointer (some ⟨pb379, 0, none⟩)), (8, .slice A0_8 n0_8 c0_8), (19, .slice A2 n2 c2), (20, .int .i64 ((n2 : Nat) : Int)), (21, .int .i64 ((i : Nat) : Int)), (22, .bool false)] (fun U485 => ?_)
      refine h42 _ _ ?_
      refine wp_ret ?_
      try simp only [Exit.then]
      refine ret1 (v := .slice A0_8 n0_8 c0_8) rfl (by kernel_rfl) ?_
      exact ⟨_, _, _, rfl, (by rw [show vs.length = i by omega]; exact ho0_8), c396⟩

set_option maxRecDepth 100000 in
set_option maxHeartbeats 1000000 in
theorem l4Around_any (m : Int) (A : Option Addr) (n c : Nat) (ps : List Pp) (A2 : Option Addr) (n2 c2 : Nat) (vs : List Vv) (a : Int) (A3 : Option Addr) (n3 c3 : Nat) (A4 : Option Addr) (n4 c4 : Nat) (w : World) (ha : Rd w 4 A n (pipesV ps)) (hb : Rd w 4 A2 n2 (valvesV vs)) (hn : n ≤ 1048576) (hn2 : n2 ≤ 1048576) (hv9 : GoodVal m ps vs) (hfa : 0 ≤ findL ps a) (hy : Rd w 1 A3 n3 (intsV (nodesL (linked ps (openQ vs false)) m.toNat (9 + findL ps a) true))) (hx : Rd w 1 A4 n4 (intsV (idxL (linked ps (openQ vs false)) ps.length (9 + findL ps a) true))) :
    Calls Try.prog 113 #[.agg #[.int .i64 m, .slice A n c], .slice A2 n2 c2, .slice A3 n3 c3, .slice A4 n4 c4] w fun e w' => ∃ A' n' c', e = .returned (.slice A' n' c') ∧ w'.ownsRow w.heap.size 3 1 (.slice A' n' c') n' (intsV (aroundI ps vs (9 + findL ps a) vs.length)) ∧ Below w.heap.size w w' := by
  have hl := rd_pipes_len ha
  have hl2 := rd_valves_len hb
  have hg := hv9.net
  have hgl := hg.lo
  have hgh := hg.hi
  have hp := hg.pipesIn
  have hlen10 := hg.len
  have hu := hv9.uniq
  have hvl := hv9.len
  have hfl := findL_lt ps a
  have hly := rd_ints_len hy
  have hlx := rd_ints_len hx
  have := nodesL_len (linked ps (openQ vs false)) m.toNat (9 + findL ps a) true
  have := idxL_len (linked ps (openQ vs false)) ps.length (9 + findL ps a) true
  go_enter Try.func113, Try.ntmps113
  refine wp_seq_k (fun K1 h1 => ?_)
  refine W.region_plain (row := none) [(0, true), (1, false)] (by kernel_rfl) ?_
  have s1 := SG.self w none
  refine W.sn (fun b => .pointer (some ⟨b, 0, none⟩)) #[.int .i64 m, .slice A n c] 32 s1 rfl (by kernel_rfl) rfl (fun _ => by kernel_rfl) (fun b2 w3 hb4 k5 x6 s7 => ?_)
  have lo8 : w.heap.size ≤ b2 := by have := ((SG.belowR (Below.refl _ _) s1 (fun kq e => by cases e))).size; omega
  refine W.as (v := .slice none 0 0) (h := ?_)
  refine W.endF 40 [(0, .agg #[.int .i64 m, .slice A n c]), (1, .slice A2 n2 c2), (2, .slice A3 n3 c3), (3, .slice A4 n4 c4), (4, .pointer (some ⟨b2, 0, none⟩)), (8, .slice none 0 0)] (fun U9 => ?_)
  have c10 := (SG.belowR (Below.refl _ _) s7 (fun kq e => by cases e))
  refine h1 _ _ ?_
  refine wp_seq_k (fun K2 h2 => ?_)
  refine W.region_plain (row := none) [(0, true), (1, false)] (by kernel_rfl) ?_
  have s11 := SG.self w3 none
  refine W.sn (fun b => .slice (some ⟨b, 0, none⟩) 0 0) #[] 3 s11 rfl (by kernel_rfl) rfl (fun _ => by kernel_rfl) (fun b12 w13 hb14 k15 x16 s17 => ?_)
  have lo18 : w.heap.size ≤ b12 := by have := ((SG.belowR c10 s11 (fun kq e => by cases e))).size; omega
  have ne19 : b2 ≠ b12 := by have := blk_lt x6; have := World.grownBy.size s11; omega
  refine W.as (v := .slice (some ⟨b12, 0, none⟩) 0 0) (h := ?_)
  refine W.endF 40 [(0, .agg #[.int .i64 m, .slice A n c]), (1, .slice A2 n2 c2), (2, .slice A3 n3 c3), (3, .slice A4 n4 c4), (4, .pointer (some ⟨b2, 0, none⟩)), (8, .slice none 0 0), (9, .slice (some ⟨b12, 0, none⟩) 0 0)] (fun U20 => ?_)
  have x6 := SG.blk s17 x6 (by simp)
  have c21 := (SG.belowR c10 s17 (fun kq e => by cases e))
  refine h2 _ _ ?_
  refine wp_seq_k (fun K3 h3 => ?_)
  refine wp_seq_k (fun K4 h4 => ?_)
  refine W.region_quiet [(0, false)] (by kernel_rfl) ?_
  refine W.as (v := .int .i64 0) (h := ?_)
  refine W.endF 40 [(0, .agg #[.int .i64 m, .slice A n c]), (1, .slice A2 n2 c2), (2, .slice A3 n3 c3), (3, .slice A4 n4 c4), (4, .pointer (some ⟨b2, 0, none⟩)), (8, .slice none 0 0), (9, .slice (some ⟨b12, 0, none⟩) 0 0), (10, .int .i64 0)] (fun U22 => ?_)
  refine h4 _ _ ?_
  refine wp_block ?_
  have ho23 := own_empty (base := w.heap.size) (size := 1) x16 lo18
  replace ho23 : World.ownsRow _ _ _ _ _ _ (intsV []) := ho23
  have nb24 : Nb b2 (.slice (some ⟨b12, 0, none⟩) 0 0) := nb_new (by have := ne19; omega)
  refine loopK (fun am0 aa0 wl0 => ∃ (i : Nat) (A0_9 : Option Addr) (n0_9 : Nat) (c0_9 : Nat) (U0 : Nat → Value), aa0 = ⟨(fr U0 [(0, .agg #[.int .i64 m, .slice A n c]), (1, .slice A2 n2 c2), (2, .slice A3 n3 c3), (3, .slice A4 n4 c4), (4, .pointer (some ⟨b2, 0, none⟩)), (8, .slice none 0 0), (9, .slice A0_9 n0_9 c0_9), (10, .int .i64 ((i : Nat) : Int))] 40 0).toArray, []⟩ ∧ (am0 = n2 - i) ∧ (i ≤ n2) ∧ (n0_9 ≤ i) ∧ (wl0.heap[b2]? = some (.cells #[.int .i64 m, .slice A n c] 32 (0, 0))) ∧ (wl0.ownsRow w.heap.size 3 1 (.slice A0_9 n0_9 c0_9) n0_9 (intsV (aroundI ps vs (9 + findL ps a) i))) ∧ (Nb b2 (.slice A0_9 n0_9 c0_9)) ∧ (Below w.heap.size w wl0)) (n2 - 0) ?_ ?_
  · exact ⟨0, (some ⟨b12, 0, none⟩), 0, 0, (fun iU9 => lk [(0, .agg #[.int .i64 m, .slice A n c]), (1, .slice A2 n2 c2), (2, .slice A3 n3 c3), (3, .slice A4 n4 c4), (4, .pointer (some ⟨b2, 0, none⟩)), (8, .slice none 0 0), (9, .slice (some ⟨b12, 0, none⟩) 0 0), (10, .int .i64 0)] iU9 (U22 iU9)), (by kernel_rfl), rfl, (Nat.zero_le _), (Nat.zero_le _), x6, ho23, nb24, c21⟩
  rintro am0 aa0 wl0 K5 h5 ⟨i, A0_9, n0_9, c0_9, U0, rfl, rfl, hi, hb9, x6, ho0_9, nb0_9_b2, c25⟩
  refine wp_seq_k (fun K6 h6 => ?_)
  refine wp_seq_k (fun K7 h7 => ?_)
  refine W.region_quiet [(0, false), (1, false), (2, false), (3, false)] (by kernel_rfl) ?_
  refine W.mv (v := .int .i64 ((i : Nat) : Int)) (h := ?_)
  refine W.mv (v := .slice A2 n2 c2) (h := ?_)
  refine W.q (v := .int .i64 ((n2 : Nat) : Int)) (hr := (r_len (A := A2) (n := n2) (c := c2) rfl (by kernel_rfl) (by kernel_rfl))) (h := ?_)
  by_cases q26 : (((i : Nat) : Int) : Int) < (((n2 : Nat) : Int) : Int)
  · refine W.q (v := .bool true) (hr := (r_lss (m := ((i : Nat) : Int)) (n := ((n2 : Nat) : Int)) rfl (by kernel_rfl) (by kernel_rfl) (decide_eq_true q26))) (h := ?_)
    refine W.endF 40 [(0, .agg #[.int .i64 m, .slice A n c]), (1, .slice A2 n2 c2), (2, .slice A3 n3 c3), (3, .slice A4 n4 c4), (4, .pointer (some ⟨b2, 0, none⟩)), (8, .slice none 0 0), (9, .slice A0_9 n0_9 c0_9), (10, .int .i64 ((i : Nat) : Int)), (15, .bool true)] (fun U27 => ?_)
    refine h7 _ _ ?_
    refine wp_cond_true (by kernel_rfl) ?_
    refine wp_skip ?_
    refine h6 _ _ ?_
    refine wp_seq_k (fun K8 h8 => ?_)
    refine wp_block ?_
    refine wp_seq_k (fun K9 h9 => ?_)
    refine W.region_sch (row := none) (Sch.of [(0, false), (1, false), (2, false), (3, false), (4, false), (5, false), (7, false), (8, false), (9, false), (10, false), (11, false), (12, false), (13, false), (6, true), (14, true), (15, true), (16, false)]) (by kernel_rfl) (by kernel_rfl) (fun _ d _ _ _ h => by cases d <;> exact h) (by kernel_rfl) (fun w28 e29 s30 => ?_)
    have ho31 := own_heap ho0_9 e29
    refine W.mv (v := .slice A3 n3 c3) (h := ?_)
    refine W.mv (v := .slice A2 n2 c2) (h := ?_)
    refine W.mv (v := .int .i64 ((i : Nat) : Int)) (h := ?_)
    obtain ⟨x32, hx33⟩ := get_of (zs := vs) (k := i) (by have := hl2; omega)
    obtain ⟨b34, o35, hA36, hb37, hc38, hc39, hc40, hc41⟩ := Rd.elValve hb hx33
    refine W.q (v := .pointer (some ⟨b34, o35 + i * 4, none⟩)) (hr := (r_idx (n := n2) (c := c2) (k := i) rfl (by kernel_rfl) hA36 (by kernel_rfl) (by kernel_rfl) (by have := hl2; omega))) (h := ?_)
    refine W.q (v := .pointer (some ⟨b34, o35 + i * 4 + 2, none⟩)) (hr := (r_field (k := 2) rfl (by kernel_rfl) (by kernel_rfl))) (h := ?_)
    refine W.ld (v := .int .i64 x32.node) (hc := (sgS (later c25 hc40) (by simp))) (h := ?_)
    refine W.mv (v := .slice A4 n4 c4) (h := ?_)
    refine W.q (v := .agg #[.int .i64 m, .slice A n c]) (hr := (r_load2 rfl (by kernel_rfl) (by kernel_rfl) (by kernel_rfl) (sgS (blk_cell (j := 0) x6 (by kernel_rfl)) (by simp)) (sgS (blk_cell (j := 1) x6 (by kernel_rfl)) (by simp)))) (h := ?_)
    refine W.mv (v := .slice A2 n2 c2) (h := ?_)
    refine W.mv (v := .int .i64 ((i : Nat) : Int)) (h := ?_)
    refine W.q (v := .pointer (some ⟨b34, o35 + i * 4, none⟩)) (hr := (r_idx (n := n2) (c := c2) (k := i) rfl (by kernel_rfl) hA36 (by kernel_rfl) (by kernel_rfl) (by have := hl2; omega))) (h := ?_)
    refine W.q (v := .pointer (some ⟨b34, o35 + i * 4 + 1, none⟩)) (hr := (r_field (k := 1) rfl (by kernel_rfl) (by kernel_rfl))) (h := ?_)
    refine W.ld (v := .int .i64 x32.pipe) (hc := (sgS (later c25 hc39) (by simp))) (h := ?_)
    obtain ⟨kz, pz, ekz, hkz, hpz, hnz⟩ := hv9.place x32 (List.mem_of_getElem? hx33)
    have hgz := hg.at hpz
    refine W.sc (vs := [.slice A3 n3 c3, .int .i64 x32.node]) rfl rfl (by kernel_rfl) (by kernel_rfl) (by kernel_rfl) rfl (l1Has_any A3 n3 c3 (nodesL (linked ps (openQ vs false)) m.toNat (9 + findL ps a) true) x32.node _ (Rd.kept hy (SG.belowR c25 s30 (fun kq e => by cases e))) (by omega)) ?_
    rintro e w43 ⟨rfl, b42⟩
    have s44 := SG.of_below s30 b42
    refine ⟨_, rfl, s44, ?_⟩
    have ho45 := own_kept ho31 b42
    refine W.sc (vs := [.agg #[.int .i64 m, .slice A n c], .int .i64 x32.pipe]) rfl rfl (by kernel_rfl) (by kernel_rfl) (by kernel_rfl) rfl (l2Find_any m A n c ps x32.pipe _ (Rd.kept ha (SG.belowR c25 s44 (fun kq e => by cases e))) (by omega)) ?_
    rintro e w47 ⟨rfl, b46⟩
    have s48 := SG.of_below s44 b46
    refine ⟨_, rfl, s48, ?_⟩
    have ho49 := own_kept ho45 b46
    refine W.sc (vs := [.slice A4 n4 c4, .int .i64 (findL ps x32.pipe)]) rfl rfl (by kernel_rfl) (by kernel_rfl) (by kernel_rfl) rfl (l1Has_any A4 n4 c4 (idxL (linked ps (openQ vs false)) ps.length (9 + findL ps a) true) (findL ps x32.pipe) _ (Rd.kept hx (SG.belowR c25 s48 (fun kq e => by cases e))) (by omega)) ?_
    rintro e w51 ⟨rfl, b50⟩
    have s52 := SG.of_below s48 b50
    refine ⟨_, rfl, s52, ?_⟩
    have ho53 := own_kept ho49 b50
    by_cases q54 : ((nodesL (linked ps (openQ vs false)) m.toNat (9 + findL ps a) true).contains x32.node) = ((idxL (linked ps (openQ vs false)) ps.length (9 + findL ps a) true).contains (findL ps x32.pipe))
    · refine W.q (v := .bool false) (hr := (r_neqB (m := ((nodesL (linked ps (openQ vs false)) m.toNat (9 + findL ps a) true).contains x32.node)) (n := ((idxL (linked ps (openQ vs false)) ps.length (9 + findL ps a) true).contains (findL ps x32.pipe))) rfl (by kernel_rfl) (by kernel_rfl) (by kernel_rfl) (by rw [(beq_iff_eq.2 q54)]; rfl))) (h := ?_)
      refine W.endF 40 [(0, .agg #[.int .i64 m, .slice A n c]), (1, .slice A2 n2 c2), (2, .slice A3 n3 c3), (3, .slice A4 n4 c4), (4, .pointer (some ⟨b2, 0, none⟩)), (8, .slice none 0 0), (9, .slice A0_9 n0_9 c0_9), (10, .int .i64 ((i : Nat) : Int)), (15, .bool true), (34, .bool false)] (fun U55 => ?_)
      have x6 := SG.blk s52 x6 (by simp)
      have c56 := (SG.belowR c25 s52 (fun kq e => by cases e))
      refine h9 _ _ ?_
      refine wp_cond_false (by kernel_rfl) ?_
      refine wp_skip ?_
      refine h8 _ _ ?_
      refine W.region_quiet [(0, false), (1, false), (2, false)] (by kernel_rfl) ?_
      refine W.mv (v := .int .i64 ((i : Nat) : Int)) (h := ?_)
      refine W.q (v := .int .i64 ((i + 1 : Nat) : Int)) (hr := (r_add (m := ((i : Nat) : Int)) (n := 1) (z := ((i + 1 : Nat) : Int)) rfl (by kernel_rfl) (by kernel_rfl) (by omega) (by omega))) (h := ?_)
      refine W.as (v := .int .i64 ((i + 1 : Nat) : Int)) (h := ?_)
      refine W.endF 40 [(0, .agg #[.int .i64 m, .slice A n c]), (1, .slice A2 n2 c2), (2, .slice A3 n3 c3), (3, .slice A4 n4 c4), (4, .pointer (some ⟨b2, 0, none⟩)), (8, .slice none 0 0), (9, .slice A0_9 n0_9 c0_9), (10, .int .i64 ((i + 1 : Nat) : Int)), (15, .bool true), (34, .bool false)] (fun U57 => ?_)
      exact h5 _ _ _ (by omega : (n2 - (i + 1)) < _) ⟨i + 1, A0_9, n0_9, c0_9, (fun iU9 => lk [(0, .agg #[.int .i64 m, .slice A n c]), (1, .slice A2 n2 c2), (2, .slice A3 n3 c3), (3, .slice A4 n4 c4), (4, .pointer (some ⟨b2, 0, none⟩)), (8, .slice none 0 0), (9, .slice A0_9 n0_9 c0_9), (10, .int .i64 ((i + 1 : Nat) : Int)), (15, .bool true), (34, .bool false)] iU9 (U57 iU9)), (by kernel_rfl), rfl, (by omega), (by omega), x6, (by rw [aroundI_no hx33 (by have h9 := nodesL_has (E := (linked ps (openQ vs false))) (m := m.toNat) (a := (9 + findL ps a)) (b := x32.node) (by omega); have h8 := idxL_has (E := (linked ps (openQ vs false))) (n := ps.length) (a := (9 + findL ps a)) (b := findL ps x32.pipe) (by omega); rw [← h9, ← h8]; exact q54)]; exact ho53), nb0_9_b2, c56⟩
    · refine W.q (v := .bool true) (hr := (r_neqB (m := ((nodesL (linked ps (openQ vs false)) m.toNat (9 + findL ps a) true).contains x32.node)) (n := ((idxL (linked ps (openQ vs false)) ps.length (9 + findL ps a) true).contains (findL ps x32.pipe))) rfl (by kernel_rfl) (by kernel_rfl) (by kernel_rfl) (by rw [(beq_eq_false_iff_ne.2 q54)]; rfl))) (h := ?_)
      refine W.endF 40 [(0, .agg #[.int .i64 m, .slice A n c]), (1, .slice A2 n2 c2), (2, .slice A3 n3 c3), (3, .slice A4 n4 c4), (4, .pointer (some ⟨b2, 0, none⟩)), (8, .slice none 0 0), (9, .slice A0_9 n0_9 c0_9), (10, .int .i64 ((i : Nat) : Int)), (15, .bool true), (34, .bool true)] (fun U58 => ?_)
      have x6 := SG.blk s52 x6 (by simp)
      have c59 := (SG.belowR c25 s52 (fun kq e => by cases e))
      refine h9 _ _ ?_
      refine wp_cond_true (by kernel_rfl) ?_
      refine W.region_plain (row := (Value.ownBlock (.slice A0_9 n0_9 c0_9))) [(0, false), (1, false), (2, true), (3, true), (4, false)] (by kernel_rfl) ?_
      have s60 := SG.self w51 (Value.ownBlock (.slice A0_9 n0_9 c0_9))
      refine W.mv (v := .slice A0_9 n0_9 c0_9) (h := ?_)
      refine W.mv (v := .int .i64 ((i : Nat) : Int)) (h := ?_)
      refine W.sn (fun b => .slice (some ⟨b, 0, none⟩) 1 1) #[.int .i64 ((i : Nat) : Int)] 3 s60 rfl (by kernel_rfl) rfl (fun _ => by kernel_rfl) (fun b61 w62 hb63 k64 x65 s66 => ?_)
      have lo67 : w.heap.size ≤ b61 := by have := ((SG.belowR c59 s60 (fun kq e => (World.ownsRow.lt ho53 kq e).1))).size; omega
      have ne68 : b2 ≠ b61 := by have := blk_lt x6; have := World.grownBy.size s60; omega
      have nb69 : Nb b61 (.slice A0_9 n0_9 c0_9) := nb_hi ho53 (Nat.le_of_eq hb63)
      have ho70 := own_kept ho53 k64
      refine W.sap (e := 3) (size := 1) (base := w.heap.size) (m := 1) (v := .slice A0_9 n0_9 c0_9) (c := 1) s66 rfl rfl rfl rfl (by kernel_rfl) (by kernel_rfl) (by kernel_rfl) ho70 x65 (by kernel_rfl) (by kernel_rfl) (by omega) (by omega) (by have := ((SG.belowR c59 s66 (fun kq e => (World.ownsRow.lt ho53 kq e).1))).size; omega) (.inl rfl) (fun g71 cap72 w73 ho74 hg75 hat76 hlt77 s78 => ?_)
      have nb79 : Nb b2 (.slice (some ⟨g71, 0, none⟩) (n0_9 + 1) cap72) := nb_app nb0_9_b2 (Nat.lt_of_lt_of_le (blk_lt x6) (World.grownBy.size s66)) hat76
      have nb80 : Nb b61 (.slice (some ⟨g71, 0, none⟩) (n0_9 + 1) cap72) := nb_app nb69 (blk_lt x65) hat76
      have x65 := (hg75.block _ (blk_lt x65) nb69).trans x65
      have ho74 := own_snoc ho74
      refine W.as (v := .slice (some ⟨g71, 0, none⟩) (n0_9 + 1) cap72) (h := ?_)
      refine W.endF 40 [(0, .agg #[.int .i64 m, .slice A n c]), (1, .slice A2 n2 c2), (2, .slice A3 n3 c3), (3, .slice A4 n4 c4), (4, .pointer (some ⟨b2, 0, none⟩)), (8, .slice none 0 0), (9, .slice (some ⟨g71, 0, none⟩) (n0_9 + 1) cap72), (10, .int .i64 ((i : Nat) : Int)), (15, .bool true), (34, .bool true)] (fun U81 => ?_)
      have x6 := SG.blk s78 x6 nb0_9_b2
      have c82 := (SG.belowR c59 s78 (fun kq e => (World.ownsRow.lt ho53 kq e).1))
      refine h8 _ _ ?_
      refine W.region_quiet [(0, false), (1, false), (2, false)] (by kernel_rfl) ?_
      refine W.mv (v := .int .i64 ((i : Nat) : Int)) (h := ?_)
      refine W.q (v := .int .i64 ((i + 1 : Nat) : Int)) (hr := (r_add (m := ((i : Nat) : Int)) (n := 1) (z := ((i + 1 : Nat) : Int)) rfl (by kernel_rfl) (by kernel_rfl) (by omega) (by omega))) (h := ?_)
      refine W.as (v := .int .i64 ((i + 1 : Nat) : Int)) (h := ?_)
      refine W.endF 40 [(0, .agg #[.int .i64 m, .slice A n c]), (1, .slice A2 n2 c2), (2, .slice A3 n3 c3), (3, .slice A4 n4 c4), (4, .pointer (some ⟨b2, 0, none⟩)), (8, .slice none 0 0), (9, .slice (some ⟨g71, 0, none⟩) (n0_9 + 1) cap72), (10, .int .i64 ((i + 1 : Nat) : Int)), (15, .bool true), (34, .bool true)] (fun U83 => ?_)
      exact h5 _ _ _ (by omega : (n2 - (i + 1)) < _) ⟨i + 1, (some ⟨g71, 0, none⟩), (n0_9 + 1), cap72, (fun iU9 => lk [(0, .agg #[.int .i64 m, .slice A n c]), (1, .slice A2 n2 c2), (2, .slice A3 n3 c3), (3, .slice A4 n4 c4), (4, .pointer (some ⟨b2, 0, none⟩)), (8, .slice none 0 0), (9, .slice (some ⟨g71, 0, none⟩) (n0_9 + 1) cap72), (10, .int .i64 ((i + 1 : Nat) : Int)), (15, .bool true), (34, .bool true)] iU9 (U83 iU9)), (by kernel_rfl), rfl, (by omega), (by omega), x6, (by rw [aroundI_yes hx33 (by have h9 := nodesL_has (E := (linked ps (openQ vs false))) (m := m.toNat) (a := (9 + findL ps a)) (b := x32.node) (by omega); have h8 := idxL_has (E := (linked ps (openQ vs false))) (n := ps.length) (a := (9 + findL ps a)) (b := findL ps x32.pipe) (by omega); rw [← h9, ← h8]; exact q54)]; exact ho74), nb79, c82⟩
  · refine W.q (v := .bool false) (hr := (r_lss (m := ((i : Nat) : Int)) (n := ((n2 : Nat) : Int)) rfl (by kernel_rfl) (by kernel_rfl) (decide_eq_false q26))) (h := ?_)
    refine W.endF 40 [(0, .agg #[.int .i64 m, .slice A n c]), (1, .slice A2 n2 c2), (2, .slice A3 n3 c3), (3, .slice A4 n4 c4), (4, .pointer (some ⟨b2, 0, none⟩)), (8, .slice none 0 0), (9, .slice A0_9 n0_9 c0_9), (10, .int .i64 ((i : Nat) : Int)), (15, .bool false)] (fun U84 => ?_)
    refine h7 _ _ ?_
    refine wp_cond_false (by kernel_rfl) ?_
    refine wp_exit ?_
    refine h3 _ _ ?_
    refine wp_seq_k (fun K10 h10 => ?_)
    refine W.region_quiet [(0, false), (1, false)] (by kernel_rfl) ?_
    refine W.mv (v := .slice A0_9 n0_9 c0_9) (h := ?_)
    refine W.as (v := .slice A0_9 n0_9 c0_9) (h := ?_)
    refine W.endF 40 [(0, .agg #[.int .i64 m, .slice A n c]), (1, .slice A2 n2 c2), (2, .slice A3 n3 c3), (3, .slice A4 n4 c4), (4, .pointer (some ⟨b2, 0, none⟩)), (8, .slice A0_9 n0_9 c0_9), (9, .slice A0_9 n0_9 c0_9), (10, .int .i64 ((i : Nat) : Int)), (15, .bool false)] (fun U85 => ?_)
    refine h10 _ _ ?_
    refine wp_ret ?_
    try simp only [Exit.then]
    refine ret1 (v := .slice A0_9 n0_9 c0_9) rfl (by kernel_rfl) ?_
    exact ⟨_, _, _, rfl, (by rw [show vs.length = i by omega]; exact ho0_9), c25⟩

set_option maxRecDepth 100000 in
set_option maxHeartbeats 1000000 in
theorem ValvesAround_spec (m : Int) (A : Option Addr) (n c : Nat) (ps : List Pp) (A2 : Option Addr) (n2 c2 : Nat) (vs : List Vv) (a : Int) (w : World) (ha : Rd w 4 A n (pipesV ps)) (hb : Rd w 4 A2 n2 (valvesV vs)) (hn : n ≤ 1048576) (hn2 : n2 ≤ 1048576) (hfm : Fm A n c) (hfm2 : Fm A2 n2 c2) :
    Calls Try.prog 72 #[.agg #[.int .i64 m, .slice A n c], .slice A2 n2 c2, .int .i64 a] w fun e w' => ∃ A' d, e = .returned (.tuple #[.slice A' (ValvesAround_v0 m ps vs a).length d, .bool (ValvesAround_v1 m ps vs a)]) ∧ Rd w' 1 A' (ValvesAround_v0 m ps vs a).length (intsV (ValvesAround_v0 m ps vs a)) ∧ Below w.heap.size w w' := by
  have hl := rd_pipes_len ha
  have hl2 := rd_valves_len hb
  have hfl := findL_lt ps a
  go_enter Try.func72, Try.ntmps72
  refine wp_seq_k (fun K1 h1 => ?_)
  refine W.region_plain (row := none) [(0, true), (1, false), (2, false)] (by kernel_rfl) ?_
  have s1 := SG.self w none
  refine W.sn (fun b => .pointer (some ⟨b, 0, none⟩)) #[.int .i64 m, .slice A n c] 32 s1 rfl (by kernel_rfl) rfl (fun _ => by kernel_rfl) (fun b2 w3 hb4 k5 x6 s7 => ?_)
  have lo8 : w.heap.size ≤ b2 := by have := ((SG.belowR (Below.refl _ _) s1 (fun kq e => by cases e))).size; omega
  refine W.as (v := .slice none 0 0) (h := ?_)
  refine W.as (v := .bool false) (h := ?_)
  refine W.endF 59 [(0, .agg #[.int .i64 m, .slice A n c]), (1, .slice A2 n2 c2), (2, .int .i64 a), (3, .pointer (some ⟨b2, 0, none⟩)), (6, .slice none 0 0), (7, .bool false)] (fun U9 => ?_)
  have c10 := (SG.belowR (Below.refl _ _) s7 (fun kq e => by cases e))
  refine h1 _ _ ?_
  refine wp_seq_k (fun K2 h2 => ?_)
  refine W.region_plain (row := none) [(0, true), (1, false)] (by kernel_rfl) ?_
  have s11 := SG.self w3 none
  refine W.sn (fun b => .slice (some ⟨b, 0, none⟩) 0 0) #[] 3 s11 rfl (by kernel_rfl) rfl (fun _ => by kernel_rfl) (fun b12 w13 hb14 k15 x16 s17 => ?_)
  have lo18 : w.heap.size ≤ b12 := by have := ((SG.belowR c10 s11 (fun kq e => by cases e))).size; omega
  have ne19 : b2 ≠ b12 := by have := blk_lt x6; have := World.grownBy.size s11; omega
  refine W.as (v := .slice (some ⟨b12, 0, none⟩) 0 0) (h := ?_)
  refine W.endF 59 [(0, .agg #[.int .i64 m, .slice A n c]), (1, .slice A2 n2 c2), (2, .int .i64 a), (3, .pointer (some ⟨b2, 0, none⟩)), (6, .slice none 0 0), (7, .bool false), (8, .slice (some ⟨b12, 0, none⟩) 0 0)] (fun U20 => ?_)
  have x6 := SG.blk s17 x6 (by simp)
  have c21 := (SG.belowR c10 s17 (fun kq e => by cases e))
  refine h2 _ _ ?_
  refine wp_seq_k (fun K3 h3 => ?_)
  refine W.region_plain (row := none) [(0, false), (1, false), (2, true), (3, false)] (by kernel_rfl) ?_
  have s22 := SG.self w13 none
  refine W.q (v := .agg #[.int .i64 m, .slice A n c]) (hr := (r_load2 rfl (by kernel_rfl) (by kernel_rfl) (by kernel_rfl) (sgS (blk_cell (j := 0) x6 (by kernel_rfl)) (by simp)) (sgS (blk_cell (j := 1) x6 (by kernel_rfl)) (by simp)))) (h := ?_)
  refine W.mv (v := .int .i64 a) (h := ?_)
  refine W.sc (vs := [.agg #[.int .i64 m, .slice A n c], .int .i64 a]) rfl rfl (by kernel_rfl) (by kernel_rfl) (by kernel_rfl) rfl (l2Find_any m A n c ps a _ (Rd.kept ha (SG.belowR c21 s22 (fun kq e => by cases e))) (by omega)) ?_
  rintro e w24 ⟨rfl, b23⟩
  have s25 := SG.of_below s22 b23
  refine ⟨_, rfl, s25, ?_⟩
  refine W.as (v := .int .i64 (findL ps a)) (h := ?_)
  refine W.endF 59 [(0, .agg #[.int .i64 m, .slice A n c]), (1, .slice A2 n2 c2), (2, .int .i64 a), (3, .pointer (some ⟨b2, 0, none⟩)), (6, .slice none 0 0), (7, .bool false), (8, .slice (some ⟨b12, 0, none⟩) 0 0), (9, .int .i64 (findL ps a))] (fun U26 => ?_)
  have x6 := SG.blk s25 x6 (by simp)
  have x16 := SG.blk s25 x16 (by simp)
  have c27 := (SG.belowR c21 s25 (fun kq e => by cases e))
  refine h3 _ _ ?_
  refine wp_seq_k (fun K4 h4 => ?_)
  refine wp_seq_k (fun K5 h5 => ?_)
  refine W.region_plain (row := none) [(0, false), (1, false), (2, true), (3, false), (4, false), (5, false), (6, false), (7, false)] (by kernel_rfl) ?_
  have s28 := SG.self w24 none
  refine W.q (v := .agg #[.int .i64 m, .slice A n c]) (hr := (r_load2 rfl (by kernel_rfl) (by kernel_rfl) (by kernel_rfl) (sgS (blk_cell (j := 0) x6 (by kernel_rfl)) (by simp)) (sgS (blk_cell (j := 1) x6 (by kernel_rfl)) (by simp)))) (h := ?_)
  refine W.mv (v := .slice A2 n2 c2) (h := ?_)
  refine W.sc (vs := [.agg #[.int .i64 m, .slice A n c], .slice A2 n2 c2]) rfl rfl (by kernel_rfl) (by kernel_rfl) (by kernel_rfl) rfl (l4Good_any m A n c ps A2 n2 c2 vs _ (Rd.kept ha (SG.belowR c27 s28 (fun kq e => by cases e))) (Rd.kept hb (SG.belowR c27 s28 (fun kq e => by cases e))) (by omega) (by omega)) ?_
  rintro e w30 ⟨rfl, b29⟩
  have s31 := SG.of_below s28 b29
  refine ⟨_, rfl, s31, ?_⟩
  rcases Bool.eq_false_or_eq_true (goodV m ps vs) with q32 | q32
  · rw [q32]
    have hv9 := goodV_of q32
    have hg := hv9.net
    have hgl := hg.lo
    have hgh := hg.hi
    have hp := hg.pipesIn
    have hlen10 := hg.len
    have hu := hv9.uniq
    have hvl := hv9.len
    refine W.q (v := .bool false) (hr := (r_not (b := true) rfl (by kernel_rfl) rfl)) (h := ?_)
    refine W.mv (v := .bool false) (h := ?_)
    refine W.mv (v := .int .i64 (findL ps a)) (h := ?_)
    by_cases q33 : (findL ps a : Int) < (0 : Int)
    · refine W.q (v := .bool true) (hr := (r_lss (m := findL ps a) (n := 0) rfl (by kernel_rfl) (by kernel_rfl) (decide_eq_true q33))) (h := ?_)
      refine W.q (v := .bool true) (hr := (r_pick (b := false) rfl (by kernel_rfl) (by kernel_rfl))) (h := ?_)
      refine W.endF 59 [(0, .agg #[.int .i64 m, .slice A n c]), (1, .slice A2 n2 c2), (2, .int .i64 a), (3, .pointer (some ⟨b2, 0, none⟩)), (6, .slice none 0 0), (7, .bool false), (8, .slice (some ⟨b12, 0, none⟩) 0 0), (9, .int .i64 (findL ps a)), (25, .bool true)] (fun U34 => ?_)
      have x6 := SG.blk s31 x6 (by simp)
      have x16 := SG.blk s31 x16 (by simp)
      have c35 := (SG.belowR c27 s31 (fun kq e => by cases e))
      refine h5 _ _ ?_
      refine wp_cond_true (by kernel_rfl) ?_
      refine wp_seq_k (fun K6 h6 => ?_)
      refine W.region_quiet [(0, false), (1, false), (2, false)] (by kernel_rfl) ?_
      refine W.mv (v := .slice (some ⟨b12, 0, none⟩) 0 0) (h := ?_)
      refine W.as (v := .slice (some ⟨b12, 0, none⟩) 0 0) (h := ?_)
      refine W.as (v := .bool false) (h := ?_)
      refine W.endF 59 [(0, .agg #[.int .i64 m, .slice A n c]), (1, .slice A2 n2 c2), (2, .int .i64 a), (3, .pointer (some ⟨b2, 0, none⟩)), (6, .slice (some ⟨b12, 0, none⟩) 0 0), (7, .bool false), (8, .slice (some ⟨b12, 0, none⟩) 0 0), (9, .int .i64 (findL ps a)), (25, .bool true)] (fun U36 => ?_)
      refine h6 _ _ ?_
      refine wp_ret ?_
      try simp only [Exit.then]
      refine ret2 (v := .slice (some ⟨b12, 0, none⟩) 0 0) (x := .bool false) rfl (by kernel_rfl) (by kernel_rfl) ?_
      have ok37 : ValvesAround_v1 m ps vs a = false := by unfold ValvesAround_v1; rw [decide_eq_false (by omega), Bool.and_false]
      have ho38 := own_empty (base := w.heap.size) (size := 1) x16 lo18
      replace ho38 : World.ownsRow _ _ _ _ _ _ (intsV []) := ho38
      have nb39 : Nb b2 (.slice (some ⟨b12, 0, none⟩) 0 0) := nb_new (by have := ne19; omega)
      exact fin_rd (zs := []) (own_rd ho38) (by unfold ValvesAround_v0; rw [if_neg (by rw [ok37]; simp)]) ok37.symm c35
    · refine W.q (v := .bool false) (hr := (r_lss (m := findL ps a) (n := 0) rfl (by kernel_rfl) (by kernel_rfl) (decide_eq_false q33))) (h := ?_)
      refine W.q (v := .bool false) (hr := (r_pick (b := false) rfl (by kernel_rfl) (by kernel_rfl))) (h := ?_)
      refine W.endF 59 [(0, .agg #[.int .i64 m, .slice A n c]), (1, .slice A2 n2 c2), (2, .int .i64 a), (3, .pointer (some ⟨b2, 0, none⟩)), (6, .slice none 0 0), (7, .bool false), (8, .slice (some ⟨b12, 0, none⟩) 0 0), (9, .int .i64 (findL ps a)), (25, .bool false)] (fun U40 => ?_)
      have x6 := SG.blk s31 x6 (by simp)
      have x16 := SG.blk s31 x16 (by simp)
      have c41 := (SG.belowR c27 s31 (fun kq e => by cases e))
      refine h5 _ _ ?_
      refine wp_cond_false (by kernel_rfl) ?_
      refine wp_skip ?_
      refine h4 _ _ ?_
      refine wp_seq_k (fun K7 h7 => ?_)
      refine W.region_plain (row := none) [(0, false), (1, false), (2, true), (3, false), (4, true), (5, true), (6, false), (7, false), (8, false), (9, false), (10, false)] (by kernel_rfl) ?_
      have s42 := SG.self w30 none
      refine W.q (v := .agg #[.int .i64 m, .slice A n c]) (hr := (r_load2 rfl (by kernel_rfl) (by kernel_rfl) (by kernel_rfl) (sgS (blk_cell (j := 0) x6 (by kernel_rfl)) (by simp)) (sgS (blk_cell (j := 1) x6 (by kernel_rfl)) (by simp)))) (h := ?_)
      refine W.mv (v := .slice A2 n2 c2) (h := ?_)
      refine W.sn (fun b => .slice (some ⟨b, 0, none⟩) 0 0) #[] 3 s42 rfl (by kernel_rfl) rfl (fun _ => by kernel_rfl) (fun b43 w44 hb45 k46 x47 s48 => ?_)
      have lo49 : w.heap.size ≤ b43 := by have := ((SG.belowR c41 s42 (fun kq e => by cases e))).size; omega
      have ne50 : b2 ≠ b43 := by have := blk_lt x6; have := World.grownBy.size s42; omega
      have ne51 : b12 ≠ b43 := by have := blk_lt x16; have := World.grownBy.size s42; omega
      refine W.mv (v := .int .i64 (findL ps a)) (h := ?_)
      refine W.sn (fun b => .slice (some ⟨b, 0, none⟩) 1 1) #[.int .i64 (findL ps a)] 3 s48 rfl (by kernel_rfl) rfl (fun _ => by kernel_rfl) (fun b52 w53 hb54 k55 x56 s57 => ?_)
      have lo58 : w.heap.size ≤ b52 := by have := ((SG.belowR c41 s48 (fun kq e => by cases e))).size; omega
      have ne59 : b2 ≠ b52 := by have := blk_lt x6; have := World.grownBy.size s48; omega
      have ne60 : b12 ≠ b52 := by have := blk_lt x16; have := World.grownBy.size s48; omega
      have ne61 : b43 ≠ b52 := by have := blk_lt x47; omega
      have x47 := (k55.block _ (blk_lt x47)).trans x47
      have ho62 := own_empty (base := w.heap.size) (size := 1) x47 lo49
      replace ho62 : World.ownsRow _ _ _ _ _ _ (intsV []) := ho62
      have nb63 : Nb b2 (.slice (some ⟨b43, 0, none⟩) 0 0) := nb_new (by have := ne50; omega)
      have nb64 : Nb b12 (.slice (some ⟨b43, 0, none⟩) 0 0) := nb_new (by have := ne51; omega)
      have nb65 : Nb b52 (.slice (some ⟨b43, 0, none⟩) 0 0) := nb_new (by have := ne61; omega)
      have rd67 := own_rd ho62
      have hl68 := rd_ints_len rd67
      have ho69 := own_blk (base := w.heap.size) (size := 1) (n := 1) x56 lo58 rfl (by omega)
      replace ho69 : World.ownsRow _ _ _ _ _ _ (intsV [findL ps a]) := ho69
      have nb70 : Nb b2 (.slice (some ⟨b52, 0, none⟩) 1 1) := nb_new (by have := ne59; omega)
      have nb71 : Nb b12 (.slice (some ⟨b52, 0, none⟩) 1 1) := nb_new (by have := ne60; omega)
      have rd73 := own_rd ho69
      have hl74 := rd_ints_len rd73
      refine W.sc (vs := [.agg #[.int .i64 m, .slice A n c], .slice A2 n2 c2, .bool false, .slice (some ⟨b43, 0, none⟩) 0 0, .slice (some ⟨b52, 0, none⟩) 1 1]) rfl rfl (by kernel_rfl) (by kernel_rfl) (by kernel_rfl) rfl (l4Spread_false m A n c ps A2 n2 c2 vs (9 + (findL ps a)) (some ⟨b43, 0, none⟩) 0 0 ([]) (some ⟨b52, 0, none⟩) 1 1 ([findL ps a]) _ (Rd.kept ha (SG.belowR c41 s57 (fun kq e => by cases e))) (Rd.kept hb (SG.belowR c41 s57 (fun kq e => by cases e))) (by omega) (by omega) hp (by omega) (by omega) rd67 (own_fm ho62) rd73 (own_fm ho69) (FndQ.startP _ (by omega))) ?_
      rintro e w90 ⟨A75, n76, c77, A78, n79, c80, rfl, rd81, fm82, rd83, fm84, b89⟩
      have s91 := SG.of_below s57 b89
      refine ⟨_, rfl, s91, ?_⟩
      have rd92 := Rd.kept rd67 b89
      have rd93 := Rd.kept rd73 b89
      have hl87 := rd_ints_len rd81
      have hl88 := rd_ints_len rd83
      have := nodesL_len (linked ps (openQ vs false)) m.toNat (9 + (findL ps a)) true
      have := idxL_len (linked ps (openQ vs false)) ps.length (9 + (findL ps a)) true
      refine W.mv (v := .tuple #[.slice A75 n76 c77, .slice A78 n79 c80]) (h := ?_)
      refine W.q (v := .slice A75 n76 c77) (hr := (r_extract (vs := #[.slice A75 n76 c77, .slice A78 n79 c80]) rfl (by kernel_rfl) (by kernel_rfl))) (h := ?_)
      refine W.q (v := .slice A78 n79 c80) (hr := (r_extract (vs := #[.slice A75 n76 c77, .slice A78 n79 c80]) rfl (by kernel_rfl) (by kernel_rfl))) (h := ?_)
      refine W.as (v := .slice A75 n76 c77) (h := ?_)
      refine W.as (v := .slice A78 n79 c80) (h := ?_)
      refine W.endF 59 [(0, .agg #[.int .i64 m, .slice A n c]), (1, .slice A2 n2 c2), (2, .int .i64 a), (3, .pointer (some ⟨b2, 0, none⟩)), (6, .slice none 0 0), (7, .bool false), (8, .slice (some ⟨b12, 0, none⟩) 0 0), (9, .int .i64 (findL ps a)), (10, .slice A75 n76 c77), (11, .slice A78 n79 c80), (25, .bool false)] (fun U94 => ?_)
      have x6 := SG.blk s91 x6 (by simp)
      have x16 := SG.blk s91 x16 (by simp)
      have c95 := (SG.belowR c41 s91 (fun kq e => by cases e))
      refine h7 _ _ ?_
      refine wp_seq_k (fun K8 h8 => ?_)
      refine W.region_plain (row := none) [(0, false), (1, false), (2, false), (3, false), (4, true), (5, false)] (by kernel_rfl) ?_
      have s96 := SG.self w90 none
      refine W.q (v := .agg #[.int .i64 m, .slice A n c]) (hr := (r_load2 rfl (by kernel_rfl) (by kernel_rfl) (by kernel_rfl) (sgS (blk_cell (j := 0) x6 (by kernel_rfl)) (by simp)) (sgS (blk_cell (j := 1) x6 (by kernel_rfl)) (by simp)))) (h := ?_)
      refine W.mv (v := .slice A2 n2 c2) (h := ?_)
      refine W.mv (v := .slice A75 n76 c77) (h := ?_)
      refine W.mv (v := .slice A78 n79 c80) (h := ?_)
      refine W.sc (vs := [.agg #[.int .i64 m, .slice A n c], .slice A2 n2 c2, .slice A75 n76 c77, .slice A78 n79 c80]) rfl rfl (by kernel_rfl) (by kernel_rfl) (by kernel_rfl) rfl (l4Around_any m A n c ps A2 n2 c2 vs a A75 n76 c77 A78 n79 c80 _ (Rd.kept ha (SG.belowR c95 s96 (fun kq e => by cases e))) (Rd.kept hb (SG.belowR c95 s96 (fun kq e => by cases e))) (by omega) (by omega) hv9 (by omega) (Rd.kept rd81 (SG.below s96)) (Rd.kept rd83 (SG.below s96))) ?_
      rintro e w106 ⟨A97, n98, c99, rfl, ho100, b105⟩
      have s107 := SG.of_below s96 b105
      refine ⟨_, rfl, s107, ?_⟩
      have rd101 := own_rd ho100
      have fm104 := own_fm ho100
      have hl102 := rd_ints_len rd101
      have sp108 := sp_freshB (g := b2) ho100 (Nat.lt_of_lt_of_le (blk_lt x6) (World.grownBy.size s96))
      have sp109 := sp_freshB (g := b12) ho100 (Nat.lt_of_lt_of_le (blk_lt x16) (World.grownBy.size s96))
      have := aroundI_len ps vs (9 + findL ps a) vs.length
      refine W.as (v := .slice A97 n98 c99) (h := ?_)
      refine W.endF 59 [(0, .agg #[.int .i64 m, .slice A n c]), (1, .slice A2 n2 c2), (2, .int .i64 a), (3, .pointer (some ⟨b2, 0, none⟩)), (6, .slice none 0 0), (7, .bool false), (8, .slice (some ⟨b12, 0, none⟩) 0 0), (9, .int .i64 (findL ps a)), (10, .slice A75 n76 c77), (11, .slice A78 n79 c80), (12, .slice A97 n98 c99), (25, .bool false)] (fun U110 => ?_)
      have x6 := SG.blk s107 x6 (by simp)
      have x16 := SG.blk s107 x16 (by simp)
      have c111 := (SG.belowR c95 s107 (fun kq e => by cases e))
      have rd112 := Rd.kept rd92 (SG.below s107)
      have rd113 := Rd.kept rd93 (SG.below s107)
      have rd114 := Rd.kept rd81 (SG.below s107)
      have rd115 := Rd.kept rd83 (SG.below s107)
      refine h8 _ _ ?_
      refine wp_seq_k (fun K9 h9 => ?_)
      refine wp_seq_k (fun K10 h10 => ?_)
      refine W.region_quiet [(0, false)] (by kernel_rfl) ?_
      refine W.as (v := .int .i64 0) (h := ?_)
      refine W.endF 59 [(0, .agg #[.int .i64 m, .slice A n c]), (1, .slice A2 n2 c2), (2, .int .i64 a), (3, .pointer (some ⟨b2, 0, none⟩)), (6, .slice none 0 0), (7, .bool false), (8, .slice (some ⟨b12, 0, none⟩) 0 0), (9, .int .i64 (findL ps a)), (10, .slice A75 n76 c77), (11, .slice A78 n79 c80), (12, .slice A97 n98 c99), (13, .int .i64 0), (25, .bool false)] (fun U116 => ?_)
      refine h10 _ _ ?_
      refine wp_block ?_
      have ho117 := own_empty (base := w.heap.size) (size := 1) x16 lo18
      replace ho117 : World.ownsRow _ _ _ _ _ _ (intsV []) := ho117
      have sp118 := sp_own (n' := 0) (c := 0) sp109
      have nb119 : Nb b2 (.slice (some ⟨b12, 0, none⟩) 0 0) := nb_new (by have := ne19; omega)
      refine loopK (fun am0 aa0 wl0 => ∃ (i : Nat) (A0_8 : Option Addr) (n0_8 : Nat) (c0_8 : Nat) (U0 : Nat → Value), aa0 = ⟨(fr U0 [(0, .agg #[.int .i64 m, .slice A n c]), (1, .slice A2 n2 c2), (2, .int .i64 a), (3, .pointer (some ⟨b2, 0, none⟩)), (6, .slice none 0 0), (7, .bool false), (8, .slice A0_8 n0_8 c0_8), (9, .int .i64 (findL ps a)), (10, .slice A75 n76 c77), (11, .slice A78 n79 c80), (12, .slice A97 n98 c99), (13, .int .i64 ((i : Nat) : Int)), (25, .bool false)] 59 0).toArray, []⟩ ∧ (am0 = n98 - i) ∧ (i ≤ n98) ∧ (n0_8 ≤ i) ∧ (wl0.heap[b2]? = some (.cells #[.int .i64 m, .slice A n c] 32 (0, 0))) ∧ (wl0.ownsRow w.heap.size 3 1 (.slice A0_8 n0_8 c0_8) n0_8 (intsV (idsV vs ((aroundI ps vs (9 + findL ps a) vs.length).take i)))) ∧ (Nb b2 (.slice A0_8 n0_8 c0_8)) ∧ (Rd wl0 1 A97 n98 (intsV (aroundI ps vs (9 + findL ps a) vs.length))) ∧ (Sp A97 n98 (Value.ownBlock (.slice A0_8 n0_8 c0_8))) ∧ (Below w.heap.size w wl0)) (n98 - 0) ?_ ?_
      · exact ⟨0, (some ⟨b12, 0, none⟩), 0, 0, (fun iU9 => lk [(0, .agg #[.int .i64 m, .slice A n c]), (1, .slice A2 n2 c2), (2, .int .i64 a), (3, .pointer (some ⟨b2, 0, none⟩)), (6, .slice none 0 0), (7, .bool false), (8, .slice (some ⟨b12, 0, none⟩) 0 0), (9, .int .i64 (findL ps a)), (10, .slice A75 n76 c77), (11, .slice A78 n79 c80), (12, .slice A97 n98 c99), (13, .int .i64 0), (25, .bool false)] iU9 (U116 iU9)), (by kernel_rfl), rfl, (Nat.zero_le _), (Nat.zero_le _), x6, ho117, nb119, rd101, sp118, c111⟩
      rintro am0 aa0 wl0 K11 h11 ⟨i, A0_8, n0_8, c0_8, U0, rfl, rfl, hi, hb8, x6, ho0_8, nb0_8_b2, rd0_12, sp0_12_8, c120⟩
      refine wp_seq_k (fun K12 h12 => ?_)
      refine wp_seq_k (fun K13 h13 => ?_)
      refine W.region_quiet [(0, false), (1, false), (2, false), (3, false)] (by kernel_rfl) ?_
      refine W.mv (v := .int .i64 ((i : Nat) : Int)) (h := ?_)
      refine W.mv (v := .slice A97 n98 c99) (h := ?_)
      refine W.q (v := .int .i64 ((n98 : Nat) : Int)) (hr := (r_len (A := A97) (n := n98) (c := c99) rfl (by kernel_rfl) (by kernel_rfl))) (h := ?_)
      by_cases q121 : (((i : Nat) : Int) : Int) < (((n98 : Nat) : Int) : Int)
      · refine W.q (v := .bool true) (hr := (r_lss (m := ((i : Nat) : Int)) (n := ((n98 : Nat) : Int)) rfl (by kernel_rfl) (by kernel_rfl) (decide_eq_true q121))) (h := ?_)
        refine W.endF 59 [(0, .agg #[.int .i64 m, .slice A n c]), (1, .slice A2 n2 c2), (2, .int .i64 a), (3, .pointer (some ⟨b2, 0, none⟩)), (6, .slice none 0 0), (7, .bool false), (8, .slice A0_8 n0_8 c0_8), (9, .int .i64 (findL ps a)), (10, .slice A75 n76 c77), (11, .slice A78 n79 c80), (12, .slice A97 n98 c99), (13, .int .i64 ((i : Nat) : Int)), (25, .bool false), (44, .bool true)] (fun U122 => ?_)
        refine h13 _ _ ?_
        refine wp_cond_true (by kernel_rfl) ?_
        refine wp_skip ?_
        refine h12 _ _ ?_
        refine wp_seq_k (fun K14 h14 => ?_)
        refine wp_block ?_
        refine W.region_plain (row := (Value.ownBlock (.slice A0_8 n0_8 c0_8))) [(0, false), (1, false), (2, false), (3, false), (4, false), (5, false), (6, false), (7, false), (8, false), (9, true), (10, true), (11, false)] (by kernel_rfl) ?_
        have s123 := SG.self wl0 (Value.ownBlock (.slice A0_8 n0_8 c0_8))
        refine W.mv (v := .slice A0_8 n0_8 c0_8) (h := ?_)
        refine W.mv (v := .slice A2 n2 c2) (h := ?_)
        refine W.mv (v := .slice A97 n98 c99) (h := ?_)
        refine W.mv (v := .int .i64 ((i : Nat) : Int)) (h := ?_)
        obtain ⟨x124, hx125⟩ := get_of (zs := (aroundI ps vs (9 + findL ps a) vs.length)) (k := i) (by have := hl102; omega)
        obtain ⟨b126, o127, hA128, hb129, hc130⟩ := Rd.elInt rd0_12 hx125
        refine W.q (v := .pointer (some ⟨b126, o127 + i, none⟩)) (hr := (r_idx1 (n := n98) (c := c99) (k := i) rfl (by kernel_rfl) hA128 (by kernel_rfl) (by kernel_rfl) (by have := hl102; omega))) (h := ?_)
        refine W.ld (v := .int .i64 x124) (hc := (sgS hc130 (sp0_12_8 (by omega) _ _ hA128))) (h := ?_)
        have hy9 := aroundI_in (List.mem_of_getElem? hx125)
        obtain ⟨x131, hx132⟩ := get_of (zs := vs) (k := x124.toNat) (by have := hl2; omega)
        obtain ⟨b133, o134, hA135, hb136, hc137, hc138, hc139, hc140⟩ := Rd.elValve hb hx132
        refine W.q (v := .pointer (some ⟨b133, o134 + x124.toNat * 4, none⟩)) (hr := (r_idx (n := n2) (c := c2) (k := x124.toNat) rfl (by kernel_rfl) hA135 (evk (z := x124) (by kernel_rfl) (by omega)) (by kernel_rfl) (by have := hl2; omega))) (h := ?_)
        refine W.q (v := .pointer (some ⟨b133, o134 + x124.toNat * 4, none⟩)) (hr := (r_field0 rfl (by kernel_rfl) (by kernel_rfl))) (h := ?_)
        refine W.ld (v := .int .i64 x131.id) (hc := (sgS (later c120 hc137) (nb_lo ho0_8 hb136))) (h := ?_)
        refine W.sn (fun b => .slice (some ⟨b, 0, none⟩) 1 1) #[.int .i64 x131.id] 3 s123 rfl (by kernel_rfl) rfl (fun _ => by kernel_rfl) (fun b141 w142 hb143 k144 x145 s146 => ?_)
        have lo147 : w.heap.size ≤ b141 := by have := ((SG.belowR c120 s123 (fun kq e => (World.ownsRow.lt ho0_8 kq e).1))).size; omega
        have sp148 : Sp A97 n98 (some b141) := sp_new rd0_12 (by have := World.grownBy.size s123; have := hb143; omega)
        have ne149 : b2 ≠ b141 := by have := blk_lt x6; have := World.grownBy.size s123; omega
        have nb150 : Nb b141 (.slice A0_8 n0_8 c0_8) := nb_hi ho0_8 (Nat.le_of_eq hb143)
        have ho151 := own_kept ho0_8 k144
        refine W.sap (e := 3) (size := 1) (base := w.heap.size) (m := 1) (v := .slice A0_8 n0_8 c0_8) (c := 1) s146 rfl rfl rfl rfl (by kernel_rfl) (by kernel_rfl) (by kernel_rfl) ho151 x145 (by kernel_rfl) (by kernel_rfl) (by omega) (by omega) (by have := ((SG.belowR c120 s146 (fun kq e => (World.ownsRow.lt ho0_8 kq e).1))).size; omega) (.inl rfl) (fun g152 cap153 w154 ho155 hg156 hat157 hlt158 s159 => ?_)
        have nb160 : Nb b2 (.slice (some ⟨g152, 0, none⟩) (n0_8 + 1) cap153) := nb_app nb0_8_b2 (Nat.lt_of_lt_of_le (blk_lt x6) (World.grownBy.size s146)) hat157
        have nb161 : Nb b141 (.slice (some ⟨g152, 0, none⟩) (n0_8 + 1) cap153) := nb_app nb150 (blk_lt x145) hat157
        have x145 := (hg156.block _ (blk_lt x145) nb150).trans x145
        have ho155 := own_snoc ho155
        have sp162 := sp_app (v' := .slice (some ⟨g152, 0, none⟩) (n0_8 + 1) cap153) sp0_12_8 rd0_12 (World.grownBy.size s146) (hat3 (v := .slice A0_8 n0_8 c0_8) hat157)
        refine W.as (v := .slice (some ⟨g152, 0, none⟩) (n0_8 + 1) cap153) (h := ?_)
        refine W.endF 59 [(0, .agg #[.int .i64 m, .slice A n c]), (1, .slice A2 n2 c2), (2, .int .i64 a), (3, .pointer (some ⟨b2, 0, none⟩)), (6, .slice none 0 0), (7, .bool false), (8, .slice (some ⟨g152, 0, none⟩) (n0_8 + 1) cap153), (9, .int .i64 (findL ps a)), (10, .slice A75 n76 c77), (11, .slice A78 n79 c80), (12, .slice A97 n98 c99), (13, .int .i64 ((i : Nat) : Int)), (25, .bool false), (44, .bool true)] (fun U163 => ?_)
        have x6 := SG.blk s159 x6 nb0_8_b2
        have c164 := (SG.belowR c120 s159 (fun kq e => (World.ownsRow.lt ho0_8 kq e).1))
        have rd165 := rd_sep rd0_12 s159 sp0_12_8
        refine h14 _ _ ?_
        refine W.region_quiet [(0, false), (1, false), (2, false)] (by kernel_rfl) ?_
        refine W.mv (v := .int .i64 ((i : Nat) : Int)) (h := ?_)
        refine W.q (v := .int .i64 ((i + 1 : Nat) : Int)) (hr := (r_add (m := ((i : Nat) : Int)) (n := 1) (z := ((i + 1 : Nat) : Int)) rfl (by kernel_rfl) (by kernel_rfl) (by omega) (by omega))) (h := ?_)
        refine W.as (v := .int .i64 ((i + 1 : Nat) : Int)) (h := ?_)
        refine W.endF 59 [(0, .agg #[.int .i64 m, .slice A n c]), (1, .slice A2 n2 c2), (2, .int .i64 a), (3, .pointer (some ⟨b2, 0, none⟩)), (6, .slice none 0 0), (7, .bool false), (8, .slice (some ⟨g152, 0, none⟩) (n0_8 + 1) cap153), (9, .int .i64 (findL ps a)), (10, .slice A75 n76 c77), (11, .slice A78 n79 c80), (12, .slice A97 n98 c99), (13, .int .i64 ((i + 1 : Nat) : Int)), (25, .bool false), (44, .bool true)] (fun U166 => ?_)
        exact h11 _ _ _ (by omega : (n98 - (i + 1)) < _) ⟨i + 1, (some ⟨g152, 0, none⟩), (n0_8 + 1), cap153, (fun iU9 => lk [(0, .agg #[.int .i64 m, .slice A n c]), (1, .slice A2 n2 c2), (2, .int .i64 a), (3, .pointer (some ⟨b2, 0, none⟩)), (6, .slice none 0 0), (7, .bool false), (8, .slice (some ⟨g152, 0, none⟩) (n0_8 + 1) cap153), (9, .int .i64 (findL ps a)), (10, .slice A75 n76 c77), (11, .slice A78 n79 c80), (12, .slice A97 n98 c99), (13, .int .i64 ((i + 1 : Nat) : Int)), (25, .bool false), (44, .bool true)] iU9 (U166 iU9)), (by kernel_rfl), rfl, (by omega), (by omega), x6, (by rw [idsV_take hx125 hx132]; exact ho155), nb160, rd165, sp162, c164⟩
      · refine W.q (v := .bool false) (hr := (r_lss (m := ((i : Nat) : Int)) (n := ((n98 : Nat) : Int)) rfl (by kernel_rfl) (by kernel_rfl) (decide_eq_false q121))) (h := ?_)
        refine W.endF 59 [(0, .agg #[.int .i64 m, .slice A n c]), (1, .slice A2 n2 c2), (2, .int .i64 a), (3, .pointer (some ⟨b2, 0, none⟩)), (6, .slice none 0 0), (7, .bool false), (8, .slice A0_8 n0_8 c0_8), (9, .int .i64 (findL ps a)), (10, .slice A75 n76 c77), (11, .slice A78 n79 c80), (12, .slice A97 n98 c99), (13, .int .i64 ((i : Nat) : Int)), (25, .bool false), (44, .bool false)] (fun U167 => ?_)
        refine h13 _ _ ?_
        refine wp_cond_false (by kernel_rfl) ?_
        refine wp_exit ?_
        refine h9 _ _ ?_
        refine wp_seq_k (fun K15 h15 => ?_)
        refine W.region_quiet [(0, false), (1, false), (2, false)] (by kernel_rfl) ?_
        refine W.mv (v := .slice A0_8 n0_8 c0_8) (h := ?_)
        refine W.as (v := .slice A0_8 n0_8 c0_8) (h := ?_)
        refine W.as (v := .bool true) (h := ?_)
        refine W.endF 59 [(0, .agg #[.int .i64 m, .slice A n c]), (1, .slice A2 n2 c2), (2, .int .i64 a), (3, .pointer (some ⟨b2, 0, none⟩)), (6, .slice A0_8 n0_8 c0_8), (7, .bool true), (8, .slice A0_8 n0_8 c0_8), (9, .int .i64 (findL ps a)), (10, .slice A75 n76 c77), (11, .slice A78 n79 c80), (12, .slice A97 n98 c99), (13, .int .i64 ((i : Nat) : Int)), (25, .bool false), (44, .bool false)] (fun U168 => ?_)
        refine h15 _ _ ?_
        refine wp_ret ?_
        try simp only [Exit.then]
        refine ret2 (v := .slice A0_8 n0_8 c0_8) (x := .bool true) rfl (by kernel_rfl) (by kernel_rfl) ?_
        have ok169 : ValvesAround_v1 m ps vs a = true := by unfold ValvesAround_v1; rw [q32, decide_eq_true (by omega)]; rfl
        exact fin_rd  (own_rd ho0_8) (by unfold ValvesAround_v0; rw [if_pos ok169, List.take_of_length_le (by omega)]) ok169.symm c120
  · rw [q32]
    refine W.q (v := .bool true) (hr := (r_not (b := false) rfl (by kernel_rfl) rfl)) (h := ?_)
    refine W.mv (v := .bool true) (h := ?_)
    refine W.sp s31 (h := ?_)
    refine W.sp s31 (h := ?_)
    refine W.q (v := .bool true) (hr := (r_pick (b := true) rfl (by kernel_rfl) (by kernel_rfl))) (h := ?_)
    refine W.endF 59 [(0, .agg #[.int .i64 m, .slice A n c]), (1, .slice A2 n2 c2), (2, .int .i64 a), (3, .pointer (some ⟨b2, 0, none⟩)), (6, .slice none 0 0), (7, .bool false), (8, .slice (some ⟨b12, 0, none⟩) 0 0), (9, .int .i64 (findL ps a)), (25, .bool true)] (fun U170 => ?_)
    have x6 := SG.blk s31 x6 (by simp)
    have x16 := SG.blk s31 x16 (by simp)
    have c171 := (SG.belowR c27 s31 (fun kq e => by cases e))
    refine h5 _ _ ?_
    refine wp_cond_true (by kernel_rfl) ?_
    refine wp_seq_k (fun K16 h16 => ?_)
    refine W.region_quiet [(0, false), (1, false), (2, false)] (by kernel_rfl) ?_
    refine W.mv (v := .slice (some ⟨b12, 0, none⟩) 0 0) (h := ?_)
    refine W.as (v := .slice (some ⟨b12, 0, none⟩) 0 0) (h := ?_)
    refine W.as (v := .bool false) (h := ?_)
    refine W.endF 59 [(0, .agg #[.int .i64 m, .slice A n c]), (1, .slice A2 n2 c2), (2, .int .i64 a), (3, .pointer (some ⟨b2, 0, none⟩)), (6, .slice (some ⟨b12, 0, none⟩) 0 0), (7, .bool false), (8, .slice (some ⟨b12, 0, none⟩) 0 0), (9, .int .i64 (findL ps a)), (25, .bool true)] (fun U172 => ?_)
    refine h16 _ _ ?_
    refine wp_ret ?_
    try simp only [Exit.then]
    refine ret2 (v := .slice (some ⟨b12, 0, none⟩) 0 0) (x := .bool false) rfl (by kernel_rfl) (by kernel_rfl) ?_
    have ok173 : ValvesAround_v1 m ps vs a = false := by unfold ValvesAround_v1; rw [q32]; rfl
    have ho174 := own_empty (base := w.heap.size) (size := 1) x16 lo18
    replace ho174 : World.ownsRow _ _ _ _ _ _ (intsV []) := ho174
    have nb175 : Nb b2 (.slice (some ⟨b12, 0, none⟩) 0 0) := nb_new (by have := ne19; omega)
    exact fin_rd (zs := []) (own_rd ho174) (by unfold ValvesAround_v0; rw [if_neg (by rw [ok173]; simp)]) ok173.symm c171

end Go.Proofs.Ytnfmdkbelbppdaa
