/- The valves around a segment: both packages answer alike. -/
import Derived.Test.YthdmbndndfiidaaVFin
import Derived.Test.YthdmbndndfiidaaVRow
namespace Go.Proofs.Ythdmbndndfiidaa
open Go.RowKit
set_option linter.unusedVariables false
set_option linter.unusedSimpArgs false

/-- The valve at an index is around the segment of an element: one of its two sides alone is in it. -/
noncomputable def arQ (ps : List Pp) (vs : List Vv) (a : Int) (i : Int) : Bool := match vs[i.toNat]? with
  | some v => !(rb (linked ps (openQ vs false)) a v.node == rb (linked ps (openQ vs false)) a (9 + findL ps v.pipe))
  | none => false
noncomputable def aroundI (ps : List Pp) (vs : List Vv) (a : Int) (k : Nat) : List Int := (upTo k).filter (arQ ps vs a)
theorem aroundI_len (ps : List Pp) (vs : List Vv) (a : Int) (k : Nat) : (aroundI ps vs a k).length ≤ k := by
  unfold aroundI; have := List.length_filter_le (arQ ps vs a) (upTo k); rw [upTo_len] at this; exact this
theorem aroundI_in {ps : List Pp} {vs : List Vv} {a : Int} {k : Nat} {y : Int} (h : y ∈ aroundI ps vs a k) : 0 ≤ y ∧ y < k := by
  unfold aroundI at h; exact mem_upTo.1 (List.mem_filter.1 h).1
theorem aroundI_yes {ps : List Pp} {vs : List Vv} {a : Int} {i : Nat} {x : Vv} (hx : vs[i]? = some x) (h : rb (linked ps (openQ vs false)) a x.node ≠ rb (linked ps (openQ vs false)) a (9 + findL ps x.pipe)) : aroundI ps vs a (i + 1) = aroundI ps vs a i ++ [(i : Int)] := by
  unfold aroundI; rw [upTo_succ, List.filter_append, List.filter_cons_of_pos (by unfold arQ; rw [Int.toNat_natCast, hx]; simpa using h)]; rfl
theorem aroundI_no {ps : List Pp} {vs : List Vv} {a : Int} {i : Nat} {x : Vv} (hx : vs[i]? = some x) (h : rb (linked ps (openQ vs false)) a x.node = rb (linked ps (openQ vs false)) a (9 + findL ps x.pipe)) : aroundI ps vs a (i + 1) = aroundI ps vs a i := by
  unfold aroundI; rw [upTo_succ, List.filter_append, List.filter_cons_of_neg (by unfold arQ; rw [Int.toNat_natCast, hx]; simp [h]), List.filter_nil, List.append_nil]
/-- The numbers of the valves at indices. -/
def idsV (vs : List Vv) (xs : List Int) : List Int := xs.map (fun i => match vs[i.toNat]? with | some v => v.id | none => 0)
theorem idsV_len (vs : List Vv) (xs : List Int) : (idsV vs xs).length = xs.length := by simp [idsV]
theorem idsV_take {vs : List Vv} {xs : List Int} {i : Nat} {y : Int} {v : Vv} (hy : xs[i]? = some y) (hp : vs[y.toNat]? = some v) : idsV vs (xs.take (i + 1)) = idsV vs (xs.take i) ++ [v.id] := by
  rw [List.take_add_one, hy]; simp [idsV, hp]
def ValvesAround_v1 (m : Int) (ps : List Pp) (vs : List Vv) (a : Int) : Bool := goodV m ps vs && decide (0 ≤ findL ps a)
noncomputable def ValvesAround_v0 (m : Int) (ps : List Pp) (vs : List Vv) (a : Int) : List Int := if ValvesAround_v1 m ps vs a = true then idsV vs (aroundI ps vs (9 + findL ps a) vs.length) else []
theorem ValvesAround_len (m : Int) (ps : List Pp) (vs : List Vv) (a : Int) : (ValvesAround_v0 m ps vs a).length ≤ 1048576 := by
  unfold ValvesAround_v0
  split
  · rename_i h
    have hg : goodV m ps vs = true := by unfold ValvesAround_v1 at h; rw [Bool.and_eq_true] at h; exact h.1
    have := (goodV_of hg).len
    rw [idsV_len]
    have := aroundI_len ps vs (9 + findL ps a) vs.length
    omega
  · simp

set_option maxRecDepth 100000 in
set_option maxHeartbeats 1000000 in
theorem valvesAround_any (m : Int) (A : Option Addr) (n c : Nat) (ps : List Pp) (A2 : Option Addr) (n2 c2 : Nat) (vs : List Vv) (a : Int) (w : World) (ha : Rd w 4 A n (pipesV ps)) (hb : Rd w 4 A2 n2 (valvesV vs)) (hn : n ≤ 1048576) (hn2 : n2 ≤ 1048576) (hv9 : GoodVal m ps vs) (hfa : 0 ≤ findL ps a) :
    Calls Try.prog 75 #[.agg #[.int .i64 m, .slice A n c], .slice A2 n2 c2, .int .i64 a] w fun e w' => ∃ A' n' c', e = .returned (.slice A' n' c') ∧ w'.ownsRow w.heap.size 3 1 (.slice A' n' c') n' (intsV (aroundI ps vs (9 + findL ps a) vs.length)) ∧ Below w.heap.size w w' := by
  have hl := rd_pipes_len ha
  have hl2 := rd_valves_len hb
  have hg := hv9.net
  have hgl := hg.lo
  have hgh := hg.hi
  have hp := hg.pipesIn
  have hlen10 := hg.len
  have hu := hv9.uniq
  have hvl := hv9.len
  have hfl := findL_lt ps a
  go_enter Try.func75, Try.ntmps75
  refine wp_seq_k (fun K1 h1 => ?_)
  refine W.region_plain (row := none) [(0, true), (1, false)] (by kernel_rfl) ?_
  have s1 := SG.self w none
  refine W.sn (fun b => .pointer (some ⟨b, 0, none⟩)) #[.int .i64 m, .slice A n c] 31 s1 rfl (by kernel_rfl) rfl (fun _ => by kernel_rfl) (fun b2 w3 hb4 k5 x6 s7 => ?_)
  have lo8 : w.heap.size ≤ b2 := by have := ((SG.belowR (Below.refl _ _) s1 (fun kq e => by cases e))).size; omega
  refine W.sq (v := .slice none 0 0) rfl (r_assign rfl (by kernel_rfl)) (by kernel_rfl) rfl rfl ?_
  refine W.sch_end (l' := [.agg #[.int .i64 m, .slice A n c], .slice A2 n2 c2, .int .i64 a, .pointer (some ⟨b2, 0, none⟩), undef, undef, .slice none 0 0, undef, undef, undef, undef, undef, undef, undef, undef, undef, undef, undef, undef, undef, undef, undef, undef, undef, undef, undef, undef, undef, undef, undef, undef, undef, undef, undef, undef, undef, undef, undef, undef, undef, undef, undef, undef, undef, undef, undef, undef, undef]) (by kernel_rfl) ?_
  have c9 := (SG.belowR (Below.refl _ _) s7 (fun kq e => by cases e))
  refine h1 _ _ ?_
  refine wp_seq_k (fun K2 h2 => ?_)
  refine W.region_sch (row := none) (Sch.app [(0, false), (1, false), (2, false), (3, false)] (.br 4 7 (Sch.app [] (.br 5 7 (Sch.app [] (.br 6 7 (Sch.of [(8, false), (7, true), (9, false)]) (Sch.of [(6, true), (8, false), (9, false)]))) (Sch.of [(5, true), (6, true), (8, false), (9, false)]))) (Sch.of [(4, true), (5, true), (6, true), (8, false), (9, false)]))) (by kernel_rfl) (by kernel_rfl) (fun _ d _ _ _ h => by cases d <;> exact h) (by kernel_rfl) (fun w10 e11 s12 => ?_)
  refine W.sq (v := .agg #[.int .i64 m, .slice A n c]) rfl (r_load2 rfl (by kernel_rfl) (by kernel_rfl) (by kernel_rfl) (sgS (blk_cell (j := 0) x6 (by kernel_rfl)) (by simp)) (sgS (blk_cell (j := 1) x6 (by kernel_rfl)) (by simp))) (by kernel_rfl) rfl rfl ?_
  refine W.sq (v := .slice A2 n2 c2) rfl (r_move rfl (by kernel_rfl)) (by kernel_rfl) rfl rfl ?_
  refine W.sq (v := .agg #[.int .i64 m, .slice A n c]) rfl (r_load2 rfl (by kernel_rfl) (by kernel_rfl) (by kernel_rfl) (sgS (blk_cell (j := 0) x6 (by kernel_rfl)) (by simp)) (sgS (blk_cell (j := 1) x6 (by kernel_rfl)) (by simp))) (by kernel_rfl) rfl rfl ?_
  refine W.sq (v := .int .i64 a) rfl (r_move rfl (by kernel_rfl)) (by kernel_rfl) rfl rfl ?_
  refine W.sbr ?_ ?_
  · refine W.sc (vs := [.agg #[.int .i64 m, .slice A n c], .int .i64 a]) rfl rfl (by kernel_rfl) (by kernel_rfl) (by kernel_rfl) rfl (pipeIndex_any m A n c ps a _ (Rd.kept ha (SG.belowR c9 s12 (fun kq e => by cases e))) (by omega)) ?_
    rintro e w14 ⟨rfl, b13⟩
    have s15 := SG.of_below s12 b13
    refine ⟨_, rfl, s15, ?_⟩
    refine W.sbr ?_ ?_
    · refine W.sc (vs := [.int .i64 (findL ps a)]) rfl rfl (by kernel_rfl) (by kernel_rfl) (by kernel_rfl) rfl (element_any (findL ps a) _ (by omega)) ?_
      rintro e w' ⟨rfl, rfl⟩
      refine ⟨_, rfl, s15, ?_⟩
      refine W.sbr ?_ ?_
      · refine W.sc (vs := [.agg #[.int .i64 m, .slice A n c], .slice A2 n2 c2, .int .i64 (9 + (findL ps a))]) rfl rfl (by kernel_rfl) (by kernel_rfl) (by kernel_rfl) rfl (segmentOf_any m A n c ps A2 n2 c2 vs (9 + (findL ps a)) (9 + (findL ps a)).toNat _ (Rd.kept ha (SG.belowR c9 s15 (fun kq e => by cases e))) (Rd.kept hb (SG.belowR c9 s15 (fun kq e => by cases e))) (by omega) (by omega) hp (by omega) (by omega) (by omega) (by omega)) ?_
        rintro e w24 ⟨pb18, rfl, lo22, rd19, b23⟩
        have s25 := SG.of_below s15 b23
        refine ⟨_, rfl, s25, ?_⟩
        have sp26 : Sp (some ⟨pb18, 0, none⟩) 19 (some b2) := sp_ptrB (Nat.lt_of_lt_of_le (Nat.lt_of_lt_of_le (blk_lt x6) (World.grownBy.size s15)) lo22)
        have hl20 := rd_bools_len rd19
        rw [wetL_len] at hl20
        have hl20 : (wetL (linked ps (openQ vs false)) (9 + (findL ps a))).length = 19 := wetL_len _ _
        refine W.sq (v := .pointer (some ⟨pb18, 0, none⟩)) rfl (r_assign rfl (by kernel_rfl)) (by kernel_rfl) rfl rfl ?_
        refine W.sn (fun b => .slice (some ⟨b, 0, none⟩) 0 0) #[] 3 s25 rfl (by kernel_rfl) rfl (fun _ => by kernel_rfl) (fun b27 w28 hb29 k30 x31 s32 => ?_)
        have lo33 : w.heap.size ≤ b27 := by have := ((SG.belowR c9 s25 (fun kq e => by cases e))).size; omega
        have sp34 : Sp (some ⟨pb18, 0, none⟩) 19 (some b27) := sp_new rd19 (by have := hb29; omega)
        have ne35 : b2 ≠ b27 := by have := blk_lt x6; have := World.grownBy.size s25; omega
        have rd36 := Rd.kept rd19 k30
        refine W.sq (v := .slice (some ⟨b27, 0, none⟩) 0 0) rfl (r_assign rfl (by kernel_rfl)) (by kernel_rfl) rfl rfl ?_
        refine W.sch_endU (fun U37 => [.agg #[.int .i64 m, .slice A n c], .slice A2 n2 c2, .int .i64 a, .pointer (some ⟨b2, 0, none⟩), undef, undef, .slice none 0 0, .pointer (some ⟨pb18, 0, none⟩), .slice (some ⟨b27, 0, none⟩) 0 0, undef, undef, U37 11, U37 12, U37 13, U37 14, U37 15, U37 16, U37 17, U37 18, undef, undef, undef, undef, undef, undef, undef, undef, undef, undef, undef, undef, undef, undef, undef, undef, undef, undef, undef, undef, undef, undef, undef, undef, undef, undef, undef, undef, undef]) (by kernel_rfl) (fun U37 => ?_)
        have x6 := SG.blk s32 x6 (by simp)
        have c38 := (SG.belowR c9 s32 (fun kq e => by cases e))
        refine h2 _ _ ?_
        refine wp_seq_k (fun K3 h3 => ?_)
        refine wp_seq_k (fun K4 h4 => ?_)
        refine W.region_quiet [(0, false), (1, false), (2, false)] (by kernel_rfl) ?_
        refine W.sq (v := .slice A2 n2 c2) rfl (r_move rfl (by kernel_rfl)) (by kernel_rfl) rfl rfl ?_
        refine W.sq (v := .int .i64 ((n2 : Nat) : Int)) rfl (r_len (A := A2) (n := n2) (c := c2) rfl (by kernel_rfl) (by kernel_rfl)) (by kernel_rfl) rfl rfl ?_
        refine W.sq (v := .int .i64 0) rfl (r_move rfl (by kernel_rfl)) (by kernel_rfl) rfl rfl ?_
        refine W.sch_end (l' := [.agg #[.int .i64 m, .slice A n c], .slice A2 n2 c2, .int .i64 a, .pointer (some ⟨b2, 0, none⟩), undef, undef, .slice none 0 0, .pointer (some ⟨pb18, 0, none⟩), .slice (some ⟨b27, 0, none⟩) 0 0, undef, undef, (U37 11), (U37 12), (U37 13), (U37 14), (U37 15), (U37 16), (U37 17), (U37 18), .slice A2 n2 c2, .int .i64 ((n2 : Nat) : Int), .int .i64 0, undef, undef, undef, undef, undef, undef, undef, undef, undef, undef, undef, undef, undef, undef, undef, undef, undef, undef, undef, undef, undef, undef, undef, undef, undef, undef]) (by kernel_rfl) ?_
        refine h4 _ _ ?_
        refine wp_block ?_
        have ho39 := own_empty (base := w.heap.size) (size := 1) x31 lo33
        replace ho39 : World.ownsRow _ _ _ _ _ _ (intsV []) := ho39
        have sp40 := sp_own (n' := 0) (c := 0) sp34
        have nb41 : Nb b2 (.slice (some ⟨b27, 0, none⟩) 0 0) := nb_new (by have := ne35; omega)
        refine loopK (fun am0 aa0 wl0 => ∃ (i : Nat) (A0_8 : Option Addr) (n0_8 : Nat) (c0_8 : Nat) (U0 : Nat → Value), aa0 = ⟨[.agg #[.int .i64 m, .slice A n c], .slice A2 n2 c2, .int .i64 a, .pointer (some ⟨b2, 0, none⟩), undef, undef, .slice none 0 0, .pointer (some ⟨pb18, 0, none⟩), .slice A0_8 n0_8 c0_8, U0 9, U0 10, (U37 11), (U37 12), (U37 13), (U37 14), (U37 15), (U37 16), (U37 17), (U37 18), .slice A2 n2 c2, .int .i64 ((n2 : Nat) : Int), .int .i64 ((i : Nat) : Int), U0 22, U0 23, U0 24, U0 25, U0 26, U0 27, U0 28, U0 29, U0 30, U0 31, U0 32, U0 33, U0 34, U0 35, U0 36, U0 37, U0 38, U0 39, U0 40, U0 41, U0 42, U0 43, U0 44, U0 45, U0 46, undef].toArray, []⟩ ∧ (am0 = n2 - i) ∧ (i ≤ n2) ∧ (n0_8 ≤ i) ∧ (wl0.heap[b2]? = some (.cells #[.int .i64 m, .slice A n c] 31 (0, 0))) ∧ (wl0.ownsRow w.heap.size 3 1 (.slice A0_8 n0_8 c0_8) n0_8 (intsV (aroundI ps vs (9 + findL ps a) i))) ∧ (Nb b2 (.slice A0_8 n0_8 c0_8)) ∧ (Rd wl0 1 (some ⟨pb18, 0, none⟩) 19 (boolsV (wetL (linked ps (openQ vs false)) (9 + (findL ps a))))) ∧ (Sp (some ⟨pb18, 0, none⟩) 19 (Value.ownBlock (.slice A0_8 n0_8 c0_8))) ∧ (Below w.heap.size w wl0)) (n2 - 0) ?_ ?_
        · exact ⟨0, (some ⟨b27, 0, none⟩), 0, 0, (fun iU9 => [.agg #[.int .i64 m, .slice A n c], .slice A2 n2 c2, .int .i64 a, .pointer (some ⟨b2, 0, none⟩), undef, undef, .slice none 0 0, .pointer (some ⟨pb18, 0, none⟩), .slice (some ⟨b27, 0, none⟩) 0 0, undef, undef, (U37 11), (U37 12), (U37 13), (U37 14), (U37 15), (U37 16), (U37 17), (U37 18), .slice A2 n2 c2, .int .i64 ((n2 : Nat) : Int), .int .i64 0, undef, undef, undef, undef, undef, undef, undef, undef, undef, undef, undef, undef, undef, undef, undef, undef, undef, undef, undef, undef, undef, undef, undef, undef, undef, undef].getD iU9 undef), (by kernel_rfl), rfl, (Nat.zero_le _), (Nat.zero_le _), x6, ho39, nb41, rd36, sp40, c38⟩
        rintro am0 aa0 wl0 K5 h5 ⟨i, A0_8, n0_8, c0_8, U0, rfl, rfl, hi, hb8, x6, ho0_8, nb0_8_b2, rd0_7, sp0_7_8, c42⟩
        refine wp_seq_k (fun K6 h6 => ?_)
        refine W.region_quiet [(0, false)] (by kernel_rfl) ?_
        by_cases q43 : (((i : Nat) : Int) : Int) < (((n2 : Nat) : Int) : Int)
        · refine W.sq (v := .bool true) rfl (r_lss (m := ((i : Nat) : Int)) (n := ((n2 : Nat) : Int)) rfl (by kernel_rfl) (by kernel_rfl) (decide_eq_true q43)) (by kernel_rfl) rfl rfl ?_
          refine W.sch_end (l' := [.agg #[.int .i64 m, .slice A n c], .slice A2 n2 c2, .int .i64 a, .pointer (some ⟨b2, 0, none⟩), undef, undef, .slice none 0 0, .pointer (some ⟨pb18, 0, none⟩), .slice A0_8 n0_8 c0_8, (U0 9), (U0 10), (U37 11), (U37 12), (U37 13), (U37 14), (U37 15), (U37 16), (U37 17), (U37 18), .slice A2 n2 c2, .int .i64 ((n2 : Nat) : Int), .int .i64 ((i : Nat) : Int), .bool true, (U0 23), (U0 24), (U0 25), (U0 26), (U0 27), (U0 28), (U0 29), (U0 30), (U0 31), (U0 32), (U0 33), (U0 34), (U0 35), (U0 36), (U0 37), (U0 38), (U0 39), (U0 40), (U0 41), (U0 42), (U0 43), (U0 44), (U0 45), (U0 46), undef]) (by kernel_rfl) ?_
          refine h6 _ _ ?_
          refine wp_seq_k (fun K7 h7 => ?_)
          refine wp_cond_true (by kernel_rfl) ?_
          refine wp_skip ?_
          refine h7 _ _ ?_
          refine wp_seq_k (fun K8 h8 => ?_)
          refine wp_block ?_
          refine wp_seq_k (fun K9 h9 => ?_)
          refine W.region_plain (row := none) [(0, false), (1, false), (2, false), (3, true), (4, false), (5, true)] (by kernel_rfl) ?_
          have s44 := SG.self wl0 none
          refine W.sq (v := .int .i64 ((i : Nat) : Int)) rfl (r_move rfl (by kernel_rfl)) (by kernel_rfl) rfl rfl ?_
          obtain ⟨x45, hx46⟩ := get_of (zs := vs) (k := i) (by have := hl2; omega)
          obtain ⟨b47, o48, hA49, hb50, hc51, hc52, hc53, hc54⟩ := Rd.elValve hb hx46
          refine W.sq (v := .pointer (some ⟨b47, o48 + i * 4, none⟩)) rfl (r_idx (n := n2) (c := c2) (k := i) rfl (by kernel_rfl) hA49 (by kernel_rfl) (by kernel_rfl) (by have := hl2; omega)) (by kernel_rfl) rfl rfl ?_
          refine W.sq (v := .agg #[.int .i64 x45.id, .int .i64 x45.pipe, .int .i64 x45.node, .bool x45.shut]) rfl (r_load4 rfl (by kernel_rfl) (by kernel_rfl) (by kernel_rfl) (sgS (later c42 hc51) (by simp)) (sgS (later c42 hc52) (by simp)) (sgS (later c42 hc53) (by simp)) (sgS (later c42 hc54) (by simp))) (by kernel_rfl) rfl rfl ?_
          refine W.sn (fun b => .pointer (some ⟨b, 0, none⟩)) #[.int .i64 0, .int .i64 0, .int .i64 0, .bool false] 59 s44 rfl (by kernel_rfl) rfl (fun _ => by kernel_rfl) (fun b55 w56 hb57 k58 x59 s60 => ?_)
          have lo61 : w.heap.size ≤ b55 := by have := ((SG.belowR c42 s44 (fun kq e => by cases e))).size; omega
          have sp62 : Sp (some ⟨pb18, 0, none⟩) 19 (some b55) := sp_new rd0_7 (by have := World.grownBy.size s44; have := hb57; omega)
          have ne63 : b2 ≠ b55 := by have := blk_lt x6; have := World.grownBy.size s44; omega
          have nb64 : Nb b55 (.slice A0_8 n0_8 c0_8) := nb_hi ho0_8 (Nat.le_of_eq hb57)
          have ho65 := own_kept ho0_8 k58
          refine W.sq (v := .int .i64 ((i : Nat) : Int)) rfl (r_assign rfl (by kernel_rfl)) (by kernel_rfl) rfl rfl ?_
          refine W.ss (v := .agg #[.int .i64 x45.id, .int .i64 x45.pipe, .int .i64 x45.node, .bool x45.shut]) (j := 0) (news := [.int .i64 x45.id, .int .i64 x45.pipe, .int .i64 x45.node, .bool x45.shut]) (cs' := #[.int .i64 x45.id, .int .i64 x45.pipe, .int .i64 x45.node, .bool x45.shut]) s60 rfl (by kernel_rfl) rfl rfl (by kernel_rfl) (by kernel_rfl) x59 (by kernel_rfl) (by kernel_rfl) (by simp) (by kernel_rfl) (by kernel_rfl) (.inr (by have := World.grownBy.size s44; have := hb57; omega)) (fun w66 g67 x68 s69 => ?_)
          have ho70 := own_grown ho65 g67 (fun j e1 e2 => by cases e2; exact nb64 e1.symm)
          refine W.sch_endU (fun U71 => [.agg #[.int .i64 m, .slice A n c], .slice A2 n2 c2, .int .i64 a, .pointer (some ⟨b2, 0, none⟩), undef, undef, .slice none 0 0, .pointer (some ⟨pb18, 0, none⟩), .slice A0_8 n0_8 c0_8, .int .i64 ((i : Nat) : Int), .pointer (some ⟨b55, 0, none⟩), (U37 11), (U37 12), (U37 13), (U37 14), (U37 15), (U37 16), (U37 17), (U37 18), .slice A2 n2 c2, .int .i64 ((n2 : Nat) : Int), .int .i64 ((i : Nat) : Int), .bool true, U71 23, U71 24, U71 25, (U0 26), (U0 27), (U0 28), (U0 29), (U0 30), (U0 31), (U0 32), (U0 33), (U0 34), (U0 35), (U0 36), (U0 37), (U0 38), (U0 39), (U0 40), (U0 41), (U0 42), (U0 43), (U0 44), (U0 45), (U0 46), undef]) (by kernel_rfl) (fun U71 => ?_)
          have x6 := SG.blk s69 x6 (by simp)
          have c72 := (SG.belowR c42 s69 (fun kq e => by cases e))
          have rd73 := Rd.kept rd0_7 (SG.below s69)
          refine h9 _ _ ?_
          refine wp_seq_k (fun K10 h10 => ?_)
          refine W.region_sch (row := none) (Sch.of [(0, false), (1, false), (2, false), (3, false), (4, false), (5, false), (6, false), (7, false), (8, false), (9, false), (12, false), (10, true), (11, true), (13, false), (14, false), (15, false)]) (by kernel_rfl) (by kernel_rfl) (fun _ d _ _ _ h => by cases d <;> exact h) (by kernel_rfl) (fun w74 e75 s76 => ?_)
          have ho77 := own_heap ho70 e75
          refine W.sq (v := .pointer (some ⟨pb18, 0, none⟩)) rfl (r_move rfl (by kernel_rfl)) (by kernel_rfl) rfl rfl ?_
          refine W.sq (v := .pointer (some ⟨b55, 2, none⟩)) rfl (r_field (k := 2) rfl (by kernel_rfl) (by kernel_rfl)) (by kernel_rfl) rfl rfl ?_
          refine W.sq (v := .int .i64 x45.node) rfl (r_load rfl (by kernel_rfl) (by kernel_rfl) (sgS (blk_cell (j := 2) x68 (by kernel_rfl)) (by simp))) (by kernel_rfl) rfl rfl ?_
          refine W.sq (v := .pointer (some ⟨pb18, 0, none⟩)) rfl (r_nilCheck rfl (by kernel_rfl)) (by kernel_rfl) rfl rfl ?_
          obtain ⟨kz, pz, ekz, hkz, hpz, hnz⟩ := hv9.place x45 (List.mem_of_getElem? hx46)
          have hgz := hg.at hpz
          obtain ⟨x78, hx79⟩ := get_of (zs := (wetL (linked ps (openQ vs false)) (9 + (findL ps a)))) (k := x45.node.toNat) (by have := hl20; omega)
          obtain ⟨hb80, hc81⟩ := Rd.elBool rd73 hx79
          refine W.sq (v := .pointer (some ⟨pb18, x45.node.toNat, none⟩)) rfl (r_idxA (len := 19) (k := x45.node.toNat) rfl (by kernel_rfl) (evk (z := x45.node) (by kernel_rfl) (by omega)) (by kernel_rfl) (by omega)) (by kernel_rfl) rfl rfl ?_
          refine W.sq (v := .bool x78) rfl (r_load rfl (by kernel_rfl) (by kernel_rfl) (sgS hc81 (by simp))) (by kernel_rfl) rfl rfl ?_
          refine W.sq (v := .pointer (some ⟨pb18, 0, none⟩)) rfl (r_move rfl (by kernel_rfl)) (by kernel_rfl) rfl rfl ?_
          refine W.sq (v := .agg #[.int .i64 m, .slice A n c]) rfl (r_load2 rfl (by kernel_rfl) (by kernel_rfl) (by kernel_rfl) (sgS (blk_cell (j := 0) x6 (by kernel_rfl)) (by simp)) (sgS (blk_cell (j := 1) x6 (by kernel_rfl)) (by simp))) (by kernel_rfl) rfl rfl ?_
          refine W.sq (v := .pointer (some ⟨b55, 1, none⟩)) rfl (r_field (k := 1) rfl (by kernel_rfl) (by kernel_rfl)) (by kernel_rfl) rfl rfl ?_
          refine W.sq (v := .int .i64 x45.pipe) rfl (r_load rfl (by kernel_rfl) (by kernel_rfl) (sgS (blk_cell (j := 1) x68 (by kernel_rfl)) (by simp))) (by kernel_rfl) rfl rfl ?_
          refine W.sq (v := .pointer (some ⟨pb18, 0, none⟩)) rfl (r_nilCheck rfl (by kernel_rfl)) (by kernel_rfl) rfl rfl ?_
          refine W.sc (vs := [.agg #[.int .i64 m, .slice A n c], .int .i64 x45.pipe]) rfl rfl (by kernel_rfl) (by kernel_rfl) (by kernel_rfl) rfl (pipeIndex_any m A n c ps x45.pipe _ (Rd.kept ha (SG.belowR c72 s76 (fun kq e => by cases e))) (by omega)) ?_
          rintro e w83 ⟨rfl, b82⟩
          have s84 := SG.of_below s76 b82
          refine ⟨_, rfl, s84, ?_⟩
          have ho85 := own_kept ho77 b82
          refine W.sc (vs := [.int .i64 (findL ps x45.pipe)]) rfl rfl (by kernel_rfl) (by kernel_rfl) (by kernel_rfl) rfl (element_any (findL ps x45.pipe) _ (by omega)) ?_
          rintro e w' ⟨rfl, rfl⟩
          refine ⟨_, rfl, s84, ?_⟩
          obtain ⟨x88, hx89⟩ := get_of (zs := (wetL (linked ps (openQ vs false)) (9 + (findL ps a)))) (k := (9 + kz)) (by have := hl20; omega)
          obtain ⟨hb90, hc91⟩ := Rd.elBool rd73 hx89
          refine W.sq (v := .pointer (some ⟨pb18, (9 + kz), none⟩)) rfl (r_idxA (len := 19) (k := (9 + kz)) rfl (by kernel_rfl) (evk (z := 9 + (findL ps x45.pipe)) (by kernel_rfl) (by omega)) (by kernel_rfl) (by omega)) (by kernel_rfl) rfl rfl ?_
          refine W.sq (v := .bool x88) rfl (r_load rfl (by kernel_rfl) (by kernel_rfl) (sgS hc91 (by simp))) (by kernel_rfl) rfl rfl ?_
          by_cases q92 : x78 = x88
          · refine W.sq (v := .bool false) rfl (r_neqB (m := x78) (n := x88) rfl (by kernel_rfl) (by kernel_rfl) (by kernel_rfl) (by rw [(beq_iff_eq.2 q92)]; rfl)) (by kernel_rfl) rfl rfl ?_
            refine W.sch_endU (fun U93 => [.agg #[.int .i64 m, .slice A n c], .slice A2 n2 c2, .int .i64 a, .pointer (some ⟨b2, 0, none⟩), undef, undef, .slice none 0 0, .pointer (some ⟨pb18, 0, none⟩), .slice A0_8 n0_8 c0_8, .int .i64 ((i : Nat) : Int), .pointer (some ⟨b55, 0, none⟩), (U37 11), (U37 12), (U37 13), (U37 14), (U37 15), (U37 16), (U37 17), (U37 18), .slice A2 n2 c2, .int .i64 ((n2 : Nat) : Int), .int .i64 ((i : Nat) : Int), .bool true, (U71 23), (U71 24), (U71 25), U93 26, U93 27, U93 28, U93 29, U93 30, U93 31, U93 32, U93 33, U93 34, U93 35, U93 36, U93 37, U93 38, U93 39, U93 40, .bool false, (U0 42), (U0 43), (U0 44), (U0 45), (U0 46), undef]) (by kernel_rfl) (fun U93 => ?_)
            have x6 := SG.blk s84 x6 (by simp)
            have x68 := SG.blk s84 x68 (by simp)
            have c94 := (SG.belowR c72 s84 (fun kq e => by cases e))
            have rd95 := Rd.kept rd73 (SG.below s84)
            refine h10 _ _ ?_
            refine wp_cond_false (by kernel_rfl) ?_
            refine wp_skip ?_
            refine h8 _ _ ?_
            refine W.region_quiet [(0, false), (1, false)] (by kernel_rfl) ?_
            refine W.sq (v := .int .i64 ((i + 1 : Nat) : Int)) rfl (r_add (m := ((i : Nat) : Int)) (n := 1) (z := ((i + 1 : Nat) : Int)) rfl (by kernel_rfl) (by kernel_rfl) (by omega) (by omega)) (by kernel_rfl) rfl rfl ?_
            refine W.sq (v := .int .i64 ((i + 1 : Nat) : Int)) rfl (r_move rfl (by kernel_rfl)) (by kernel_rfl) rfl rfl ?_
            refine W.sch_endU (fun U96 => [.agg #[.int .i64 m, .slice A n c], .slice A2 n2 c2, .int .i64 a, .pointer (some ⟨b2, 0, none⟩), undef, undef, .slice none 0 0, .pointer (some ⟨pb18, 0, none⟩), .slice A0_8 n0_8 c0_8, .int .i64 ((i : Nat) : Int), .pointer (some ⟨b55, 0, none⟩), (U37 11), (U37 12), (U37 13), (U37 14), (U37 15), (U37 16), (U37 17), (U37 18), .slice A2 n2 c2, .int .i64 ((n2 : Nat) : Int), .int .i64 ((i + 1 : Nat) : Int), .bool true, (U71 23), (U71 24), (U71 25), (U93 26), (U93 27), (U93 28), (U93 29), (U93 30), (U93 31), (U93 32), (U93 33), (U93 34), (U93 35), (U93 36), (U93 37), (U93 38), (U93 39), (U93 40), .bool false, (U0 42), (U0 43), (U0 44), (U0 45), U96 46, undef]) (by kernel_rfl) (fun U96 => ?_)
            exact h5 _ _ _ (by omega : (n2 - (i + 1)) < _) ⟨i + 1, A0_8, n0_8, c0_8, (fun iU9 => [.agg #[.int .i64 m, .slice A n c], .slice A2 n2 c2, .int .i64 a, .pointer (some ⟨b2, 0, none⟩), undef, undef, .slice none 0 0, .pointer (some ⟨pb18, 0, none⟩), .slice A0_8 n0_8 c0_8, .int .i64 ((i : Nat) : Int), .pointer (some ⟨b55, 0, none⟩), (U37 11), (U37 12), (U37 13), (U37 14), (U37 15), (U37 16), (U37 17), (U37 18), .slice A2 n2 c2, .int .i64 ((n2 : Nat) : Int), .int .i64 ((i + 1 : Nat) : Int), .bool true, (U71 23), (U71 24), (U71 25), (U93 26), (U93 27), (U93 28), (U93 29), (U93 30), (U93 31), (U93 32), (U93 33), (U93 34), (U93 35), (U93 36), (U93 37), (U93 38), (U93 39), (U93 40), .bool false, (U0 42), (U0 43), (U0 44), (U0 45), (U96 46), undef].getD iU9 undef), (by kernel_rfl), rfl, (by omega), (by omega), x6, (by rw [aroundI_no hx46 (by have h9 := wet_eqI (b := x45.node) hx79 (by omega); have h8 := wet_eqI (b := 9 + findL ps x45.pipe) hx89 (by omega); rw [← h9, ← h8]; exact q92)]; exact ho85), nb0_8_b2, rd95, sp0_7_8, c94⟩
          · refine W.sq (v := .bool true) rfl (r_neqB (m := x78) (n := x88) rfl (by kernel_rfl) (by kernel_rfl) (by kernel_rfl) (by rw [(beq_eq_false_iff_ne.2 q92)]; rfl)) (by kernel_rfl) rfl rfl ?_
            refine W.sch_endU (fun U97 => [.agg #[.int .i64 m, .slice A n c], .slice A2 n2 c2, .int .i64 a, .pointer (some ⟨b2, 0, none⟩), undef, undef, .slice none 0 0, .pointer (some ⟨pb18, 0, none⟩), .slice A0_8 n0_8 c0_8, .int .i64 ((i : Nat) : Int), .pointer (some ⟨b55, 0, none⟩), (U37 11), (U37 12), (U37 13), (U37 14), (U37 15), (U37 16), (U37 17), (U37 18), .slice A2 n2 c2, .int .i64 ((n2 : Nat) : Int), .int .i64 ((i : Nat) : Int), .bool true, (U71 23), (U71 24), (U71 25), U97 26, U97 27, U97 28, U97 29, U97 30, U97 31, U97 32, U97 33, U97 34, U97 35, U97 36, U97 37, U97 38, U97 39, U97 40, .bool true, (U0 42), (U0 43), (U0 44), (U0 45), (U0 46), undef]) (by kernel_rfl) (fun U97 => ?_)
            have x6 := SG.blk s84 x6 (by simp)
            have x68 := SG.blk s84 x68 (by simp)
            have c98 := (SG.belowR c72 s84 (fun kq e => by cases e))
            have rd99 := Rd.kept rd73 (SG.below s84)
            refine h10 _ _ ?_
            refine wp_cond_true (by kernel_rfl) ?_
            refine W.region_plain (row := (Value.ownBlock (.slice A0_8 n0_8 c0_8))) [(0, false), (1, false), (2, true), (3, true), (4, false)] (by kernel_rfl) ?_
            have s100 := SG.self w83 (Value.ownBlock (.slice A0_8 n0_8 c0_8))
            refine W.sq (v := .slice A0_8 n0_8 c0_8) rfl (r_move rfl (by kernel_rfl)) (by kernel_rfl) rfl rfl ?_
            refine W.sq (v := .int .i64 ((i : Nat) : Int)) rfl (r_move rfl (by kernel_rfl)) (by kernel_rfl) rfl rfl ?_
            refine W.sn (fun b => .slice (some ⟨b, 0, none⟩) 1 1) #[.int .i64 ((i : Nat) : Int)] 3 s100 rfl (by kernel_rfl) rfl (fun _ => by kernel_rfl) (fun b101 w102 hb103 k104 x105 s106 => ?_)
            have lo107 : w.heap.size ≤ b101 := by have := ((SG.belowR c98 s100 (fun kq e => (World.ownsRow.lt ho85 kq e).1))).size; omega
            have sp108 : Sp (some ⟨pb18, 0, none⟩) 19 (some b101) := sp_new rd99 (by have := World.grownBy.size s100; have := hb103; omega)
            have ne109 : b2 ≠ b101 := by have := blk_lt x6; have := World.grownBy.size s100; omega
            have ne110 : b55 ≠ b101 := by have := blk_lt x68; have := World.grownBy.size s100; omega
            have nb111 : Nb b101 (.slice A0_8 n0_8 c0_8) := nb_hi ho85 (Nat.le_of_eq hb103)
            have ho112 := own_kept ho85 k104
            refine W.sap (e := 3) (size := 1) (base := w.heap.size) (m := 1) (v := .slice A0_8 n0_8 c0_8) (c := 1) s106 rfl rfl rfl rfl (by kernel_rfl) (by kernel_rfl) (by kernel_rfl) ho112 x105 (by kernel_rfl) (by kernel_rfl) (by omega) (by omega) (by have := ((SG.belowR c98 s106 (fun kq e => (World.ownsRow.lt ho85 kq e).1))).size; omega) (.inl rfl) (fun g113 cap114 w115 ho116 hg117 hat118 hlt119 s120 => ?_)
            have nb121 : Nb b2 (.slice (some ⟨g113, 0, none⟩) (n0_8 + 1) cap114) := nb_app nb0_8_b2 (Nat.lt_of_lt_of_le (blk_lt x6) (World.grownBy.size s106)) hat118
            have nb122 : Nb b55 (.slice (some ⟨g113, 0, none⟩) (n0_8 + 1) cap114) := nb_app nb64 (Nat.lt_of_lt_of_le (blk_lt x68) (World.grownBy.size s106)) hat118
            have nb123 : Nb b101 (.slice (some ⟨g113, 0, none⟩) (n0_8 + 1) cap114) := nb_app nb111 (blk_lt x105) hat118
            have x105 := (hg117.block _ (blk_lt x105) nb111).trans x105
            have ho116 := own_snoc ho116
            have sp124 := sp_app (v' := .slice (some ⟨g113, 0, none⟩) (n0_8 + 1) cap114) sp0_7_8 rd99 (World.grownBy.size s106) (hat3 (v := .slice A0_8 n0_8 c0_8) hat118)
            refine W.sq (v := .slice (some ⟨g113, 0, none⟩) (n0_8 + 1) cap114) rfl (r_assign rfl (by kernel_rfl)) (by kernel_rfl) rfl rfl ?_
            refine W.sch_endU (fun U125 => [.agg #[.int .i64 m, .slice A n c], .slice A2 n2 c2, .int .i64 a, .pointer (some ⟨b2, 0, none⟩), undef, undef, .slice none 0 0, .pointer (some ⟨pb18, 0, none⟩), .slice (some ⟨g113, 0, none⟩) (n0_8 + 1) cap114, .int .i64 ((i : Nat) : Int), .pointer (some ⟨b55, 0, none⟩), (U37 11), (U37 12), (U37 13), (U37 14), (U37 15), (U37 16), (U37 17), (U37 18), .slice A2 n2 c2, .int .i64 ((n2 : Nat) : Int), .int .i64 ((i : Nat) : Int), .bool true, (U71 23), (U71 24), (U71 25), (U97 26), (U97 27), (U97 28), (U97 29), (U97 30), (U97 31), (U97 32), (U97 33), (U97 34), (U97 35), (U97 36), (U97 37), (U97 38), (U97 39), (U97 40), .bool true, U125 42, U125 43, U125 44, U125 45, (U0 46), undef]) (by kernel_rfl) (fun U125 => ?_)
            have x6 := SG.blk s120 x6 nb0_8_b2
            have x68 := SG.blk s120 x68 nb64
            have c126 := (SG.belowR c98 s120 (fun kq e => (World.ownsRow.lt ho85 kq e).1))
            have rd127 := rd_sep rd99 s120 sp0_7_8
            refine h8 _ _ ?_
            refine W.region_quiet [(0, false), (1, false)] (by kernel_rfl) ?_
            refine W.sq (v := .int .i64 ((i + 1 : Nat) : Int)) rfl (r_add (m := ((i : Nat) : Int)) (n := 1) (z := ((i + 1 : Nat) : Int)) rfl (by kernel_rfl) (by kernel_rfl) (by omega) (by omega)) (by kernel_rfl) rfl rfl ?_
            refine W.sq (v := .int .i64 ((i + 1 : Nat) : Int)) rfl (r_move rfl (by kernel_rfl)) (by kernel_rfl) rfl rfl ?_
            refine W.sch_endU (fun U128 => [.agg #[.int .i64 m, .slice A n c], .slice A2 n2 c2, .int .i64 a, .pointer (some ⟨b2, 0, none⟩), undef, undef, .slice none 0 0, .pointer (some ⟨pb18, 0, none⟩), .slice (some ⟨g113, 0, none⟩) (n0_8 + 1) cap114, .int .i64 ((i : Nat) : Int), .pointer (some ⟨b55, 0, none⟩), (U37 11), (U37 12), (U37 13), (U37 14), (U37 15), (U37 16), (U37 17), (U37 18), .slice A2 n2 c2, .int .i64 ((n2 : Nat) : Int), .int .i64 ((i + 1 : Nat) : Int), .bool true, (U71 23), (U71 24), (U71 25), (U97 26), (U97 27), (U97 28), (U97 29), (U97 30), (U97 31), (U97 32), (U97 33), (U97 34), (U97 35), (U97 36), (U97 37), (U97 38), (U97 39), (U97 40), .bool true, (U125 42), (U125 43), (U125 44), (U125 45), U128 46, undef]) (by kernel_rfl) (fun U128 => ?_)
            exact h5 _ _ _ (by omega : (n2 - (i + 1)) < _) ⟨i + 1, (some ⟨g113, 0, none⟩), (n0_8 + 1), cap114, (fun iU9 => [.agg #[.int .i64 m, .slice A n c], .slice A2 n2 c2, .int .i64 a, .pointer (some ⟨b2, 0, none⟩), undef, undef, .slice none 0 0, .pointer (some ⟨pb18, 0, none⟩), .slice (some ⟨g113, 0, none⟩) (n0_8 + 1) cap114, .int .i64 ((i : Nat) : Int), .pointer (some ⟨b55, 0, none⟩), (U37 11), (U37 12), (U37 13), (U37 14), (U37 15), (U37 16), (U37 17), (U37 18), .slice A2 n2 c2, .int .i64 ((n2 : Nat) : Int), .int .i64 ((i + 1 : Nat) : Int), .bool true, (U71 23), (U71 24), (U71 25), (U97 26), (U97 27), (U97 28), (U97 29), (U97 30), (U97 31), (U97 32), (U97 33), (U97 34), (U97 35), (U97 36), (U97 37), (U97 38), (U97 39), (U97 40), .bool true, (U125 42), (U125 43), (U125 44), (U125 45), (U128 46), undef].getD iU9 undef), (by kernel_rfl), rfl, (by omega), (by omega), x6, (by rw [aroundI_yes hx46 (by have h9 := wet_eqI (b := x45.node) hx79 (by omega); have h8 := wet_eqI (b := 9 + findL ps x45.pipe) hx89 (by omega); rw [← h9, ← h8]; exact q92)]; exact ho116), nb121, rd127, sp124, c126⟩
        · refine W.sq (v := .bool false) rfl (r_lss (m := ((i : Nat) : Int)) (n := ((n2 : Nat) : Int)) rfl (by kernel_rfl) (by kernel_rfl) (decide_eq_false q43)) (by kernel_rfl) rfl rfl ?_
          refine W.sch_end (l' := [.agg #[.int .i64 m, .slice A n c], .slice A2 n2 c2, .int .i64 a, .pointer (some ⟨b2, 0, none⟩), undef, undef, .slice none 0 0, .pointer (some ⟨pb18, 0, none⟩), .slice A0_8 n0_8 c0_8, (U0 9), (U0 10), (U37 11), (U37 12), (U37 13), (U37 14), (U37 15), (U37 16), (U37 17), (U37 18), .slice A2 n2 c2, .int .i64 ((n2 : Nat) : Int), .int .i64 ((i : Nat) : Int), .bool false, (U0 23), (U0 24), (U0 25), (U0 26), (U0 27), (U0 28), (U0 29), (U0 30), (U0 31), (U0 32), (U0 33), (U0 34), (U0 35), (U0 36), (U0 37), (U0 38), (U0 39), (U0 40), (U0 41), (U0 42), (U0 43), (U0 44), (U0 45), (U0 46), undef]) (by kernel_rfl) ?_
          refine h6 _ _ ?_
          refine wp_seq_k (fun K11 h11 => ?_)
          refine wp_cond_false (by kernel_rfl) ?_
          refine wp_exit ?_
          refine h3 _ _ ?_
          refine wp_seq_k (fun K12 h12 => ?_)
          refine W.region_quiet [(0, false), (1, false)] (by kernel_rfl) ?_
          refine W.sq (v := .slice A0_8 n0_8 c0_8) rfl (r_move rfl (by kernel_rfl)) (by kernel_rfl) rfl rfl ?_
          refine W.sq (v := .slice A0_8 n0_8 c0_8) rfl (r_assign rfl (by kernel_rfl)) (by kernel_rfl) rfl rfl ?_
          refine W.sch_endU (fun U129 => [.agg #[.int .i64 m, .slice A n c], .slice A2 n2 c2, .int .i64 a, .pointer (some ⟨b2, 0, none⟩), undef, undef, .slice A0_8 n0_8 c0_8, .pointer (some ⟨pb18, 0, none⟩), .slice A0_8 n0_8 c0_8, (U0 9), (U0 10), (U37 11), (U37 12), (U37 13), (U37 14), (U37 15), (U37 16), (U37 17), (U37 18), .slice A2 n2 c2, .int .i64 ((n2 : Nat) : Int), .int .i64 ((i : Nat) : Int), .bool false, (U0 23), (U0 24), (U0 25), (U0 26), (U0 27), (U0 28), (U0 29), (U0 30), (U0 31), (U0 32), (U0 33), (U0 34), (U0 35), (U0 36), (U0 37), (U0 38), (U0 39), (U0 40), (U0 41), (U0 42), (U0 43), (U0 44), (U0 45), (U0 46), U129 47]) (by kernel_rfl) (fun U129 => ?_)
          refine h12 _ _ ?_
          refine wp_ret ?_
          try simp only [Exit.then]
          refine ret1 (v := .slice A0_8 n0_8 c0_8) rfl (by kernel_rfl) ?_
          exact ⟨_, _, _, rfl, (by rw [show vs.length = i by omega]; exact ho0_8), c42⟩
      · refine W.sn (fun b => .slice (some ⟨b, 0, none⟩) 0 0) #[] 3 s15 rfl (by kernel_rfl) rfl (fun _ => by kernel_rfl) (fun b130 w131 hb132 k133 x134 s135 => ?_)
        have lo136 : w.heap.size ≤ b130 := by have := ((SG.belowR c9 s15 (fun kq e => by cases e))).size; omega
        have ne137 : b2 ≠ b130 := by have := blk_lt x6; have := World.grownBy.size s15; omega
        have lb143 := blk_lt x134
        refine W.sc (vs := [.agg #[.int .i64 m, .slice A n c], .slice A2 n2 c2, .int .i64 (9 + (findL ps a))]) rfl rfl (by kernel_rfl) (by kernel_rfl) (by kernel_rfl) rfl (segmentOf_any m A n c ps A2 n2 c2 vs (9 + (findL ps a)) (9 + (findL ps a)).toNat _ (Rd.kept ha (SG.belowR c9 s135 (fun kq e => by cases e))) (Rd.kept hb (SG.belowR c9 s135 (fun kq e => by cases e))) (by omega) (by omega) hp (by omega) (by omega) (by omega) (by omega)) ?_
        rintro e w145 ⟨pb138, rfl, lo142, rd139, b144⟩
        have s146 := SG.of_below s135 b144
        refine ⟨_, rfl, s146, ?_⟩
        have x134 := (b144.block _ (blk_lt x134)).trans x134
        have sp147 : Sp (some ⟨pb138, 0, none⟩) 19 (some b2) := sp_ptrB (Nat.lt_of_lt_of_le (Nat.lt_of_lt_of_le (blk_lt x6) (World.grownBy.size s135)) lo142)
        have sp148 : Sp (some ⟨pb138, 0, none⟩) 19 (some b130) := sp_ptrB (Nat.lt_of_lt_of_le lb143 lo142)
        have hl140 := rd_bools_len rd139
        rw [wetL_len] at hl140
        have hl140 : (wetL (linked ps (openQ vs false)) (9 + (findL ps a))).length = 19 := wetL_len _ _
        refine W.sq (v := .pointer (some ⟨pb138, 0, none⟩)) rfl (r_assign rfl (by kernel_rfl)) (by kernel_rfl) rfl rfl ?_
        refine W.sq (v := .slice (some ⟨b130, 0, none⟩) 0 0) rfl (r_assign rfl (by kernel_rfl)) (by kernel_rfl) rfl rfl ?_
        refine W.sch_endU (fun U149 => [.agg #[.int .i64 m, .slice A n c], .slice A2 n2 c2, .int .i64 a, .pointer (some ⟨b2, 0, none⟩), undef, undef, .slice none 0 0, .pointer (some ⟨pb138, 0, none⟩), .slice (some ⟨b130, 0, none⟩) 0 0, undef, undef, U149 11, U149 12, U149 13, U149 14, U149 15, U149 16, U149 17, U149 18, undef, undef, undef, undef, undef, undef, undef, undef, undef, undef, undef, undef, undef, undef, undef, undef, undef, undef, undef, undef, undef, undef, undef, undef, undef, undef, undef, undef, undef]) (by kernel_rfl) (fun U149 => ?_)
        have x6 := SG.blk s146 x6 (by simp)
        have c150 := (SG.belowR c9 s146 (fun kq e => by cases e))
        refine h2 _ _ ?_
        refine wp_seq_k (fun K13 h13 => ?_)
        refine wp_seq_k (fun K14 h14 => ?_)
        refine W.region_quiet [(0, false), (1, false), (2, false)] (by kernel_rfl) ?_
        refine W.sq (v := .slice A2 n2 c2) rfl (r_move rfl (by kernel_rfl)) (by kernel_rfl) rfl rfl ?_
        refine W.sq (v := .int .i64 ((n2 : Nat) : Int)) rfl (r_len (A := A2) (n := n2) (c := c2) rfl (by kernel_rfl) (by kernel_rfl)) (by kernel_rfl) rfl rfl ?_
        refine W.sq (v := .int .i64 0) rfl (r_move rfl (by kernel_rfl)) (by kernel_rfl) rfl rfl ?_
        refine W.sch_end (l' := [.agg #[.int .i64 m, .slice A n c], .slice A2 n2 c2, .int .i64 a, .pointer (some ⟨b2, 0, none⟩), undef, undef, .slice none 0 0, .pointer (some ⟨pb138, 0, none⟩), .slice (some ⟨b130, 0, none⟩) 0 0, undef, undef, (U149 11), (U149 12), (U149 13), (U149 14), (U149 15), (U149 16), (U149 17), (U149 18), .slice A2 n2 c2, .int .i64 ((n2 : Nat) : Int), .int .i64 0, undef, undef, undef, undef, undef, undef, undef, undef, undef, undef, undef, undef, undef, undef, undef, undef, undef, undef, undef, undef, undef, undef, undef, undef, undef, undef]) (by kernel_rfl) ?_
        refine h14 _ _ ?_
        refine wp_block ?_
        have ho151 := own_empty (base := w.heap.size) (size := 1) x134 lo136
        replace ho151 : World.ownsRow _ _ _ _ _ _ (intsV []) := ho151
        have sp152 := sp_own (n' := 0) (c := 0) sp148
        have nb153 : Nb b2 (.slice (some ⟨b130, 0, none⟩) 0 0) := nb_new (by have := ne137; omega)
        refine loopK (fun am0 aa0 wl0 => ∃ (i : Nat) (A0_8 : Option Addr) (n0_8 : Nat) (c0_8 : Nat) (U0 : Nat → Value), aa0 = ⟨[.agg #[.int .i64 m, .slice A n c], .slice A2 n2 c2, .int .i64 a, .pointer (some ⟨b2, 0, none⟩), undef, undef, .slice none 0 0, .pointer (some ⟨pb138, 0, none⟩), .slice A0_8 n0_8 c0_8, U0 9, U0 10, (U149 11), (U149 12), (U149 13), (U149 14), (U149 15), (U149 16), (U149 17), (U149 18), .slice A2 n2 c2, .int .i64 ((n2 : Nat) : Int), .int .i64 ((i : Nat) : Int), U0 22, U0 23, U0 24, U0 25, U0 26, U0 27, U0 28, U0 29, U0 30, U0 31, U0 32, U0 33, U0 34, U0 35, U0 36, U0 37, U0 38, U0 39, U0 40, U0 41, U0 42, U0 43, U0 44, U0 45, U0 46, undef].toArray, []⟩ ∧ (am0 = n2 - i) ∧ (i ≤ n2) ∧ (n0_8 ≤ i) ∧ (wl0.heap[b2]? = some (.cells #[.int .i64 m, .slice A n c] 31 (0, 0))) ∧ (wl0.ownsRow w.heap.size 3 1 (.slice A0_8 n0_8 c0_8) n0_8 (intsV (aroundI ps vs (9 + findL ps a) i))) ∧ (Nb b2 (.slice A0_8 n0_8 c0_8)) ∧ (Rd wl0 1 (some ⟨pb138, 0, none⟩) 19 (boolsV (wetL (linked ps (openQ vs false)) (9 + (findL ps a))))) ∧ (Sp (some ⟨pb138, 0, none⟩) 19 (Value.ownBlock (.slice A0_8 n0_8 c0_8))) ∧ (Below w.heap.size w wl0)) (n2 - 0) ?_ ?_
        · exact ⟨0, (some ⟨b130, 0, none⟩), 0, 0, (fun iU9 => [.agg #[.int .i64 m, .slice A n c], .slice A2 n2 c2, .int .i64 a, .pointer (some ⟨b2, 0, none⟩), undef, undef, .slice none 0 0, .pointer (some ⟨pb138, 0, none⟩), .slice (some ⟨b130, 0, none⟩) 0 0, undef, undef, (U149 11), (U149 12), (U149 13), (U149 14), (U149 15), (U149 16), (U149 17), (U149 18), .slice A2 n2 c2, .int .i64 ((n2 : Nat) : Int), .int .i64 0, undef, undef, undef, undef, undef, undef, undef, undef, undef, undef, undef, undef, undef, undef, undef, undef, undef, undef, undef, undef, undef, undef, undef, undef, undef, undef].getD iU9 undef), (by kernel_rfl), rfl, (Nat.zero_le _), (Nat.zero_le _), x6, ho151, nb153, rd139, sp152, c150⟩
        rintro am0 aa0 wl0 K15 h15 ⟨i, A0_8, n0_8, c0_8, U0, rfl, rfl, hi, hb8, x6, ho0_8, nb0_8_b2, rd0_7, sp0_7_8, c154⟩
        refine wp_seq_k (fun K16 h16 => ?_)
        refine W.region_quiet [(0, false)] (by kernel_rfl) ?_
        by_cases q155 : (((i : Nat) : Int) : Int) < (((n2 : Nat) : Int) : Int)
        · refine W.sq (v := .bool true) rfl (r_lss (m := ((i : Nat) : Int)) (n := ((n2 : Nat) : Int)) rfl (by kernel_rfl) (by kernel_rfl) (decide_eq_true q155)) (by kernel_rfl) rfl rfl ?_
          refine W.sch_end (l' := [.agg #[.int .i64 m, .slice A n c], .slice A2 n2 c2, .int .i64 a, .pointer (some ⟨b2, 0, none⟩), undef, undef, .slice none 0 0, .pointer (some ⟨pb138, 0, none⟩), .slice A0_8 n0_8 c0_8, (U0 9), (U0 10), (U149 11), (U149 12), (U149 13), (U149 14), (U149 15), (U149 16), (U149 17), (U149 18), .slice A2 n2 c2, .int .i64 ((n2 : Nat) : Int), .int .i64 ((i : Nat) : Int), .bool true, (U0 23), (U0 24), (U0 25), (U0 26), (U0 27), (U0 28), (U0 29), (U0 30), (U0 31), (U0 32), (U0 33), (U0 34), (U0 35), (U0 36), (U0 37), (U0 38), (U0 39), (U0 40), (U0 41), (U0 42), (U0 43), (U0 44), (U0 45), (U0 46), undef]) (by kernel_rfl) ?_
          refine h16 _ _ ?_
          refine wp_seq_k (fun K17 h17 => ?_)
          refine wp_cond_true (by kernel_rfl) ?_
          refine wp_skip ?_
          refine h17 _ _ ?_
          refine wp_seq_k (fun K18 h18 => ?_)
          refine wp_block ?_
          refine wp_seq_k (fun K19 h19 => ?_)
          refine W.region_plain (row := none) [(0, false), (1, false), (2, false), (3, true), (4, false), (5, true)] (by kernel_rfl) ?_
          have s156 := SG.self wl0 none
          refine W.sq (v := .int .i64 ((i : Nat) : Int)) rfl (r_move rfl (by kernel_rfl)) (by kernel_rfl) rfl rfl ?_
          obtain ⟨x157, hx158⟩ := get_of (zs := vs) (k := i) (by have := hl2; omega)
          obtain ⟨b159, o160, hA161, hb162, hc163, hc164, hc165, hc166⟩ := Rd.elValve hb hx158
          refine W.sq (v := .pointer (some ⟨b159, o160 + i * 4, none⟩)) rfl (r_idx (n := n2) (c := c2) (k := i) rfl (by kernel_rfl) hA161 (by kernel_rfl) (by kernel_rfl) (by have := hl2; omega)) (by kernel_rfl) rfl rfl ?_
          refine W.sq (v := .agg #[.int .i64 x157.id, .int .i64 x157.pipe, .int .i64 x157.node, .bool x157.shut]) rfl (r_load4 rfl (by kernel_rfl) (by kernel_rfl) (by kernel_rfl) (sgS (later c154 hc163) (by simp)) (sgS (later c154 hc164) (by simp)) (sgS (later c154 hc165) (by simp)) (sgS (later c154 hc166) (by simp))) (by kernel_rfl) rfl rfl ?_
          refine W.sn (fun b => .pointer (some ⟨b, 0, none⟩)) #[.int .i64 0, .int .i64 0, .int .i64 0, .bool false] 59 s156 rfl (by kernel_rfl) rfl (fun _ => by kernel_rfl) (fun b167 w168 hb169 k170 x171 s172 => ?_)
          have lo173 : w.heap.size ≤ b167 := by have := ((SG.belowR c154 s156 (fun kq e => by cases e))).size; omega
          have sp174 : Sp (some ⟨pb138, 0, none⟩) 19 (some b167) := sp_new rd0_7 (by have := World.grownBy.size s156; have := hb169; omega)
          have ne175 : b2 ≠ b167 := by have := blk_lt x6; have := World.grownBy.size s156; omega
          have nb176 : Nb b167 (.slice A0_8 n0_8 c0_8) := nb_hi ho0_8 (Nat.le_of_eq hb169)
          have ho177 := own_kept ho0_8 k170
          refine W.sq (v := .int .i64 ((i : Nat) : Int)) rfl (r_assign rfl (by kernel_rfl)) (by kernel_rfl) rfl rfl ?_
          refine W.ss (v := .agg #[.int .i64 x157.id, .int .i64 x157.pipe, .int .i64 x157.node, .bool x157.shut]) (j := 0) (news := [.int .i64 x157.id, .int .i64 x157.pipe, .int .i64 x157.node, .bool x157.shut]) (cs' := #[.int .i64 x157.id, .int .i64 x157.pipe, .int .i64 x157.node, .bool x157.shut]) s172 rfl (by kernel_rfl) rfl rfl (by kernel_rfl) (by kernel_rfl) x171 (by kernel_rfl) (by kernel_rfl) (by simp) (by kernel_rfl) (by kernel_rfl) (.inr (by have := World.grownBy.size s156; have := hb169; omega)) (fun w178 g179 x180 s181 => ?_)
          have ho182 := own_grown ho177 g179 (fun j e1 e2 => by cases e2; exact nb176 e1.symm)
          refine W.sch_endU (fun U183 => [.agg #[.int .i64 m, .slice A n c], .slice A2 n2 c2, .int .i64 a, .pointer (some ⟨b2, 0, none⟩), undef, undef, .slice none 0 0, .pointer (some ⟨pb138, 0, none⟩), .slice A0_8 n0_8 c0_8, .int .i64 ((i : Nat) : Int), .pointer (some ⟨b167, 0, none⟩), (U149 11), (U149 12), (U149 13), (U149 14), (U149 15), (U149 16), (U149 17), (U149 18), .slice A2 n2 c2, .int .i64 ((n2 : Nat) : Int), .int .i64 ((i : Nat) : Int), .bool true, U183 23, U183 24, U183 25, (U0 26), (U0 27), (U0 28), (U0 29), (U0 30), (U0 31), (U0 32), (U0 33), (U0 34), (U0 35), (U0 36), (U0 37), (U0 38), (U0 39), (U0 40), (U0 41), (U0 42), (U0 43), (U0 44), (U0 45), (U0 46), undef]) (by kernel_rfl) (fun U183 => ?_)
          have x6 := SG.blk s181 x6 (by simp)
          have c184 := (SG.belowR c154 s181 (fun kq e => by cases e))
          have rd185 := Rd.kept rd0_7 (SG.below s181)
          refine h19 _ _ ?_
          refine wp_seq_k (fun K20 h20 => ?_)
          refine W.region_sch (row := none) (Sch.of [(0, false), (1, false), (2, false), (3, false), (4, false), (5, false), (6, false), (7, false), (8, false), (9, false), (12, false), (10, true), (11, true), (13, false), (14, false), (15, false)]) (by kernel_rfl) (by kernel_rfl) (fun _ d _ _ _ h => by cases d <;> exact h) (by kernel_rfl) (fun w186 e187 s188 => ?_)
          have ho189 := own_heap ho182 e187
          refine W.sq (v := .pointer (some ⟨pb138, 0, none⟩)) rfl (r_move rfl (by kernel_rfl)) (by kernel_rfl) rfl rfl ?_
          refine W.sq (v := .pointer (some ⟨b167, 2, none⟩)) rfl (r_field (k := 2) rfl (by kernel_rfl) (by kernel_rfl)) (by kernel_rfl) rfl rfl ?_
          refine W.sq (v := .int .i64 x157.node) rfl (r_load rfl (by kernel_rfl) (by kernel_rfl) (sgS (blk_cell (j := 2) x180 (by kernel_rfl)) (by simp))) (by kernel_rfl) rfl rfl ?_
          refine W.sq (v := .pointer (some ⟨pb138, 0, none⟩)) rfl (r_nilCheck rfl (by kernel_rfl)) (by kernel_rfl) rfl rfl ?_
          obtain ⟨kz, pz, ekz, hkz, hpz, hnz⟩ := hv9.place x157 (List.mem_of_getElem? hx158)
          have hgz := hg.at hpz
          obtain ⟨x190, hx191⟩ := get_of (zs := (wetL (linked ps (openQ vs false)) (9 + (findL ps a)))) (k := x157.node.toNat) (by have := hl140; omega)
          obtain ⟨hb192, hc193⟩ := Rd.elBool rd185 hx191
          refine W.sq (v := .pointer (some ⟨pb138, x157.node.toNat, none⟩)) rfl (r_idxA (len := 19) (k := x157.node.toNat) rfl (by kernel_rfl) (evk (z := x157.node) (by kernel_rfl) (by omega)) (by kernel_rfl) (by omega)) (by kernel_rfl) rfl rfl ?_
          refine W.sq (v := .bool x190) rfl (r_load rfl (by kernel_rfl) (by kernel_rfl) (sgS hc193 (by simp))) (by kernel_rfl) rfl rfl ?_
          refine W.sq (v := .pointer (some ⟨pb138, 0, none⟩)) rfl (r_move rfl (by kernel_rfl)) (by kernel_rfl) rfl rfl ?_
          refine W.sq (v := .agg #[.int .i64 m, .slice A n c]) rfl (r_load2 rfl (by kernel_rfl) (by kernel_rfl) (by kernel_rfl) (sgS (blk_cell (j := 0) x6 (by kernel_rfl)) (by simp)) (sgS (blk_cell (j := 1) x6 (by kernel_rfl)) (by simp))) (by kernel_rfl) rfl rfl ?_
          refine W.sq (v := .pointer (some ⟨b167, 1, none⟩)) rfl (r_field (k := 1) rfl (by kernel_rfl) (by kernel_rfl)) (by kernel_rfl) rfl rfl ?_
          refine W.sq (v := .int .i64 x157.pipe) rfl (r_load rfl (by kernel_rfl) (by kernel_rfl) (sgS (blk_cell (j := 1) x180 (by kernel_rfl)) (by simp))) (by kernel_rfl) rfl rfl ?_
          refine W.sq (v := .pointer (some ⟨pb138, 0, none⟩)) rfl (r_nilCheck rfl (by kernel_rfl)) (by kernel_rfl) rfl rfl ?_
          refine W.sc (vs := [.agg #[.int .i64 m, .slice A n c], .int .i64 x157.pipe]) rfl rfl (by kernel_rfl) (by kernel_rfl) (by kernel_rfl) rfl (pipeIndex_any m A n c ps x157.pipe _ (Rd.kept ha (SG.belowR c184 s188 (fun kq e => by cases e))) (by omega)) ?_
          rintro e w195 ⟨rfl, b194⟩
          have s196 := SG.of_below s188 b194
          refine ⟨_, rfl, s196, ?_⟩
          have ho197 := own_kept ho189 b194
          refine W.sc (vs := [.int .i64 (findL ps x157.pipe)]) rfl rfl (by kernel_rfl) (by kernel_rfl) (by kernel_rfl) rfl (element_any (findL ps x157.pipe) _ (by omega)) ?_
          rintro e w' ⟨rfl, rfl⟩
          refine ⟨_, rfl, s196, ?_⟩
          obtain ⟨x200, hx201⟩ := get_of (zs := (wetL (linked ps (openQ vs false)) (9 + (findL ps a)))) (k := (9 + kz)) (by have := hl140; omega)
          obtain ⟨hb202, hc203⟩ := Rd.elBool rd185 hx201
          refine W.sq (v := .pointer (some ⟨pb138, (9 + kz), none⟩)) rfl (r_idxA (len := 19) (k := (9 + kz)) rfl (by kernel_rfl) (evk (z := 9 + (findL ps x157.pipe)) (by kernel_rfl) (by omega)) (by kernel_rfl) (by omega)) (by kernel_rfl) rfl rfl ?_
          refine W.sq (v := .bool x200) rfl (r_load rfl (by kernel_rfl) (by kernel_rfl) (sgS hc203 (by simp))) (by kernel_rfl) rfl rfl ?_
          by_cases q204 : x190 = x200
          · refine W.sq (v := .bool false) rfl (r_neqB (m := x190) (n := x200) rfl (by kernel_rfl) (by kernel_rfl) (by kernel_rfl) (by rw [(beq_iff_eq.2 q204)]; rfl)) (by kernel_rfl) rfl rfl ?_
            refine W.sch_endU (fun U205 => [.agg #[.int .i64 m, .slice A n c], .slice A2 n2 c2, .int .i64 a, .pointer (some ⟨b2, 0, none⟩), undef, undef, .slice none 0 0, .pointer (some ⟨pb138, 0, none⟩), .slice A0_8 n0_8 c0_8, .int .i64 ((i : Nat) : Int), .pointer (some ⟨b167, 0, none⟩), (U149 11), (U149 12), (U149 13), (U149 14), (U149 15), (U149 16), (U149 17), (U149 18), .slice A2 n2 c2, .int .i64 ((n2 : Nat) : Int), .int .i64 ((i : Nat) : Int), .bool true, (U183 23), (U183 24), (U183 25), U205 26, U205 27, U205 28, U205 29, U205 30, U205 31, U205 32, U205 33, U205 34, U205 35, U205 36, U205 37, U205 38, U205 39, U205 40, .bool false, (U0 42), (U0 43), (U0 44), (U0 45), (U0 46), undef]) (by kernel_rfl) (fun U205 => ?_)
            have x6 := SG.blk s196 x6 (by simp)
            have x180 := SG.blk s196 x180 (by simp)
            have c206 := (SG.belowR c184 s196 (fun kq e => by cases e))
            have rd207 := Rd.kept rd185 (SG.below s196)
            refine h20 _ _ ?_
            refine wp_cond_false (by kernel_rfl) ?_
            refine wp_skip ?_
            refine h18 _ _ ?_
            refine W.region_quiet [(0, false), (1, false)] (by kernel_rfl) ?_
            refine W.sq (v := .int .i64 ((i + 1 : Nat) : Int)) rfl (r_add (m := ((i : Nat) : Int)) (n := 1) (z := ((i + 1 : Nat) : Int)) rfl (by kernel_rfl) (by kernel_rfl) (by omega) (by omega)) (by kernel_rfl) rfl rfl ?_
            refine W.sq (v := .int .i64 ((i + 1 : Nat) : Int)) rfl (r_move rfl (by kernel_rfl)) (by kernel_rfl) rfl rfl ?_
            refine W.sch_endU (fun U208 => [.agg #[.int .i64 m, .slice A n c], .slice A2 n2 c2, .int .i64 a, .pointer (some ⟨b2, 0, none⟩), undef, undef, .slice none 0 0, .pointer (some ⟨pb138, 0, none⟩), .slice A0_8 n0_8 c0_8, .int .i64 ((i : Nat) : Int), .pointer (some ⟨b167, 0, none⟩), (U149 11), (U149 12), (U149 13), (U149 14), (U149 15), (U149 16), (U149 17), (U149 18), .slice A2 n2 c2, .int .i64 ((n2 : Nat) : Int), .int .i64 ((i + 1 : Nat) : Int), .bool true, (U183 23), (U183 24), (U183 25), (U205 26), (U205 27), (U205 28), (U205 29), (U205 30), (U205 31), (U205 32), (U205 33), (U205 34), (U205 35), (U205 36), (U205 37), (U205 38), (U205 39), (U205 40), .bool false, (U0 42), (U0 43), (U0 44), (U0 45), U208 46, undef]) (by kernel_rfl) (fun U208 => ?_)
            exact h15 _ _ _ (by omega : (n2 - (i + 1)) < _) ⟨i + 1, A0_8, n0_8, c0_8, (fun iU9 => [.agg #[.int .i64 m, .slice A n c], .slice A2 n2 c2, .int .i64 a, .pointer (some ⟨b2, 0, none⟩), undef, undef, .slice none 0 0, .pointer (some ⟨pb138, 0, none⟩), .slice A0_8 n0_8 c0_8, .int .i64 ((i : Nat) : Int), .pointer (some ⟨b167, 0, none⟩), (U149 11), (U149 12), (U149 13), (U149 14), (U149 15), (U149 16), (U149 17), (U149 18), .slice A2 n2 c2, .int .i64 ((n2 : Nat) : Int), .int .i64 ((i + 1 : Nat) : Int), .bool true, (U183 23), (U183 24), (U183 25), (U205 26), (U205 27), (U205 28), (U205 29), (U205 30), (U205 31), (U205 32), (U205 33), (U205 34), (U205 35), (U205 36), (U205 37), (U205 38), (U205 39), (U205 40), .bool false, (U0 42), (U0 43), (U0 44), (U0 45), (U208 46), undef].getD iU9 undef), (by kernel_rfl), rfl, (by omega), (by omega), x6, (by rw [aroundI_no hx158 (by have h9 := wet_eqI (b := x157.node) hx191 (by omega); have h8 := wet_eqI (b := 9 + findL ps x157.pipe) hx201 (by omega); rw [← h9, ← h8]; exact q204)]; exact ho197), nb0_8_b2, rd207, sp0_7_8, c206⟩
          · refine W.sq (v := .bool true) rfl (r_neqB (m := x190) (n := x200) rfl (by kernel_rfl) (by kernel_rfl) (by kernel_rfl) (by rw [(beq_eq_false_iff_ne.2 q204)]; rfl)) (by kernel_rfl) rfl rfl ?_
            refine W.sch_endU (fun U209 => [.agg #[.int .i64 m, .slice A n c], .slice A2 n2 c2, .int .i64 a, .pointer (some ⟨b2, 0, none⟩), undef, undef, .slice none 0 0, .pointer (some ⟨pb138, 0, none⟩), .slice A0_8 n0_8 c0_8, .int .i64 ((i : Nat) : Int), .pointer (some ⟨b167, 0, none⟩), (U149 11), (U149 12), (U149 13), (U149 14), (U149 15), (U149 16), (U149 17), (U149 18), .slice A2 n2 c2, .int .i64 ((n2 : Nat) : Int), .int .i64 ((i : Nat) : Int), .bool true, (U183 23), (U183 24), (U183 25), U209 26, U209 27, U209 28, U209 29, U209 30, U209 31, U209 32, U209 33, U209 34, U209 35, U209 36, U209 37, U209 38, U209 39, U209 40, .bool true, (U0 42), (U0 43), (U0 44), (U0 45), (U0 46), undef]) (by kernel_rfl) (fun U209 => ?_)
            have x6 := SG.blk s196 x6 (by simp)
            have x180 := SG.blk s196 x180 (by simp)
            have c210 := (SG.belowR c184 s196 (fun kq e => by cases e))
            have rd211 := Rd.kept rd185 (SG.below s196)
            refine h20 _ _ ?_
            refine wp_cond_true (by kernel_rfl) ?_
            refine W.region_plain (row := (Value.ownBlock (.slice A0_8 n0_8 c0_8))) [(0, false), (1, false), (2, true), (3, true), (4, false)] (by kernel_rfl) ?_
            have s212 := SG.self w195 (Value.ownBlock (.slice A0_8 n0_8 c0_8))
            refine W.sq (v := .slice A0_8 n0_8 c0_8) rfl (r_move rfl (by kernel_rfl)) (by kernel_rfl) rfl rfl ?_
            refine W.sq (v := .int .i64 ((i : Nat) : Int)) rfl (r_move rfl (by kernel_rfl)) (by kernel_rfl) rfl rfl ?_
            refine W.sn (fun b => .slice (some ⟨b, 0, none⟩) 1 1) #[.int .i64 ((i : Nat) : Int)] 3 s212 rfl (by kernel_rfl) rfl (fun _ => by kernel_rfl) (fun b213 w214 hb215 k216 x217 s218 => ?_)
            have lo219 : w.heap.size ≤ b213 := by have := ((SG.belowR c210 s212 (fun kq e => (World.ownsRow.lt ho197 kq e).1))).size; omega
            have sp220 : Sp (some ⟨pb138, 0, none⟩) 19 (some b213) := sp_new rd211 (by have := World.grownBy.size s212; have := hb215; omega)
            have ne221 : b2 ≠ b213 := by have := blk_lt x6; have := World.grownBy.size s212; omega
            have ne222 : b167 ≠ b213 := by have := blk_lt x180; have := World.grownBy.size s212; omega
            have nb223 : Nb b213 (.slice A0_8 n0_8 c0_8) := nb_hi ho197 (Nat.le_of_eq hb215)
            have ho224 := own_kept ho197 k216
            refine W.sap (e := 3) (size := 1) (base := w.heap.size) (m := 1) (v := .slice A0_8 n0_8 c0_8) (c := 1) s218 rfl rfl rfl rfl (by kernel_rfl) (by kernel_rfl) (by kernel_rfl) ho224 x217 (by kernel_rfl) (by kernel_rfl) (by omega) (by omega) (by have := ((SG.belowR c210 s218 (fun kq e => (World.ownsRow.lt ho197 kq e).1))).size; omega) (.inl rfl) (fun g225 cap226 w227 ho228 hg229 hat230 hlt231 s232 => ?_)
            have nb233 : Nb b2 (.slice (some ⟨g225, 0, none⟩) (n0_8 + 1) cap226) := nb_app nb0_8_b2 (Nat.lt_of_lt_of_le (blk_lt x6) (World.grownBy.size s218)) hat230
            have nb234 : Nb b167 (.slice (some ⟨g225, 0, none⟩) (n0_8 + 1) cap226) := nb_app nb176 (Nat.lt_of_lt_of_le (blk_lt x180) (World.grownBy.size s218)) hat230
            have nb235 : Nb b213 (.slice (some ⟨g225, 0, none⟩) (n0_8 + 1) cap226) := nb_app nb223 (blk_lt x217) hat230
            have x217 := (hg229.block _ (blk_lt x217) nb223).trans x217
            have ho228 := own_snoc ho228
            have sp236 := sp_app (v' := .slice (some ⟨g225, 0, none⟩) (n0_8 + 1) cap226) sp0_7_8 rd211 (World.grownBy.size s218) (hat3 (v := .slice A0_8 n0_8 c0_8) hat230)
            refine W.sq (v := .slice (some ⟨g225, 0, none⟩) (n0_8 + 1) cap226) rfl (r_assign rfl (by kernel_rfl)) (by kernel_rfl) rfl rfl ?_
            refine W.sch_endU (fun U237 => [.agg #[.int .i64 m, .slice A n c], .slice A2 n2 c2, .int .i64 a, .pointer (some ⟨b2, 0, none⟩), undef, undef, .slice none 0 0, .pointer (some ⟨pb138, 0, none⟩), .slice (some ⟨g225, 0, none⟩) (n0_8 + 1) cap226, .int .i64 ((i : Nat) : Int), .pointer (some ⟨b167, 0, none⟩), (U149 11), (U149 12), (U149 13), (U149 14), (U149 15), (U149 16), (U149 17), (U149 18), .slice A2 n2 c2, .int .i64 ((n2 : Nat) : Int), .int .i64 ((i : Nat) : Int), .bool true, (U183 23), (U183 24), (U183 25), (U209 26), (U209 27), (U209 28), (U209 29), (U209 30), (U209 31), (U209 32), (U209 33), (U209 34), (U209 35), (U209 36), (U209 37), (U209 38), (U209 39), (U209 40), .bool true, U237 42, U237 43, U237 44, U237 45, (U0 46), undef]) (by kernel_rfl) (fun U237 => ?_)
            have x6 := SG.blk s232 x6 nb0_8_b2
            have x180 := SG.blk s232 x180 nb176
            have c238 := (SG.belowR c210 s232 (fun kq e => (World.ownsRow.lt ho197 kq e).1))
            have rd239 := rd_sep rd211 s232 sp0_7_8
            refine h18 _ _ ?_
            refine W.region_quiet [(0, false), (1, false)] (by kernel_rfl) ?_
            refine W.sq (v := .int .i64 ((i + 1 : Nat) : Int)) rfl (r_add (m := ((i : Nat) : Int)) (n := 1) (z := ((i + 1 : Nat) : Int)) rfl (by kernel_rfl) (by kernel_rfl) (by omega) (by omega)) (by kernel_rfl) rfl rfl ?_
            refine W.sq (v := .int .i64 ((i + 1 : Nat) : Int)) rfl (r_move rfl (by kernel_rfl)) (by kernel_rfl) rfl rfl ?_
            refine W.sch_endU (fun U240 => [.agg #[.int .i64 m, .slice A n c], .slice A2 n2 c2, .int .i64 a, .pointer (some ⟨b2, 0, none⟩), undef, undef, .slice none 0 0, .pointer (some ⟨pb138, 0, none⟩), .slice (some ⟨g225, 0, none⟩) (n0_8 + 1) cap226, .int .i64 ((i : Nat) : Int), .pointer (some ⟨b167, 0, none⟩), (U149 11), (U149 12), (U149 13), (U149 14), (U149 15), (U149 16), (U149 17), (U149 18), .slice A2 n2 c2, .int .i64 ((n2 : Nat) : Int), .int .i64 ((i + 1 : Nat) : Int), .bool true, (U183 23), (U183 24), (U183 25), (U209 26), (U209 27), (U209 28), (U209 29), (U209 30), (U209 31), (U209 32), (U209 33), (U209 34), (U209 35), (U209 36), (U209 37), (U209 38), (U209 39), (U209 40), .bool true, (U237 42), (U237 43), (U237 44), (U237 45), U240 46, undef]) (by kernel_rfl) (fun U240 => ?_)
            exact h15 _ _ _ (by omega : (n2 - (i + 1)) < _) ⟨i + 1, (some ⟨g225, 0, none⟩), (n0_8 + 1), cap226, (fun iU9 => [.agg #[.int .i64 m, .slice A n c], .slice A2 n2 c2, .int .i64 a, .pointer (some ⟨b2, 0, none⟩), undef, undef, .slice none 0 0, .pointer (some ⟨pb138, 0, none⟩), .slice (some ⟨g225, 0, none⟩) (n0_8 + 1) cap226, .int .i64 ((i : Nat) : Int), .pointer (some ⟨b167, 0, none⟩), (U149 11), (U149 12), (U149 13), (U149 14), (U149 15), (U149 16), (U149 17), (U149 18), .slice A2 n2 c2, .int .i64 ((n2 : Nat) : Int), .int .i64 ((i + 1 : Nat) : Int), .bool true, (U183 23), (U183 24), (U183 25), (U209 26), (U209 27), (U209 28), (U209 29), (U209 30), (U209 31), (U209 32), (U209 33), (U209 34), (U209 35), (U209 36), (U209 37), (U209 38), (U209 39), (U209 40), .bool true, (U237 42), (U237 43), (U237 44), (U237 45), (U240 46), undef].getD iU9 undef), (by kernel_rfl), rfl, (by omega), (by omega), x6, (by rw [aroundI_yes hx158 (by have h9 := wet_eqI (b := x157.node) hx191 (by omega); have h8 := wet_eqI (b := 9 + findL ps x157.pipe) hx201 (by omega); rw [← h9, ← h8]; exact q204)]; exact ho228), nb233, rd239, sp236, c238⟩
        · refine W.sq (v := .bool false) rfl (r_lss (m := ((i : Nat) : Int)) (n := ((n2 : Nat) : Int)) rfl (by kernel_rfl) (by kernel_rfl) (decide_eq_false q155)) (by kernel_rfl) rfl rfl ?_
          refine W.sch_end (l' := [.agg #[.int .i64 m, .slice A n c], .slice A2 n2 c2, .int .i64 a, .pointer (some ⟨b2, 0, none⟩), undef, undef, .slice none 0 0, .pointer (some ⟨pb138, 0, none⟩), .slice A0_8 n0_8 c0_8, (U0 9), (U0 10), (U149 11), (U149 12), (U149 13), (U149 14), (U149 15), (U149 16), (U149 17), (U149 18), .slice A2 n2 c2, .int .i64 ((n2 : Nat) : Int), .int .i64 ((i : Nat) : Int), .bool false, (U0 23), (U0 24), (U0 25), (U0 26), (U0 27), (U0 28), (U0 29), (U0 30), (U0 31), (U0 32), (U0 33), (U0 34), (U0 35), (U0 36), (U0 37), (U0 38), (U0 39), (U0 40), (U0 41), (U0 42), (U0 43), (U0 44), (U0 45), (U0 46), undef]) (by kernel_rfl) ?_
          refine h16 _ _ ?_
          refine wp_seq_k (fun K21 h21 => ?_)
          refine wp_cond_false (by kernel_rfl) ?_
          refine wp_exit ?_
          refine h13 _ _ ?_
          refine wp_seq_k (fun K22 h22 => ?_)
          refine W.region_quiet [(0, false), (1, false)] (by kernel_rfl) ?_
          refine W.sq (v := .slice A0_8 n0_8 c0_8) rfl (r_move rfl (by kernel_rfl)) (by kernel_rfl) rfl rfl ?_
          refine W.sq (v := .slice A0_8 n0_8 c0_8) rfl (r_assign rfl (by kernel_rfl)) (by kernel_rfl) rfl rfl ?_
          refine W.sch_endU (fun U241 => [.agg #[.int .i64 m, .slice A n c], .slice A2 n2 c2, .int .i64 a, .pointer (some ⟨b2, 0, none⟩), undef, undef, .slice A0_8 n0_8 c0_8, .pointer (some ⟨pb138, 0, none⟩), .slice A0_8 n0_8 c0_8, (U0 9), (U0 10), (U149 11), (U149 12), (U149 13), (U149 14), (U149 15), (U149 16), (U149 17), (U149 18), .slice A2 n2 c2, .int .i64 ((n2 : Nat) : Int), .int .i64 ((i : Nat) : Int), .bool false, (U0 23), (U0 24), (U0 25), (U0 26), (U0 27), (U0 28), (U0 29), (U0 30), (U0 31), (U0 32), (U0 33), (U0 34), (U0 35), (U0 36), (U0 37), (U0 38), (U0 39), (U0 40), (U0 41), (U0 42), (U0 43), (U0 44), (U0 45), (U0 46), U241 47]) (by kernel_rfl) (fun U241 => ?_)
          refine h22 _ _ ?_
          refine wp_ret ?_
          try simp only [Exit.then]
          refine ret1 (v := .slice A0_8 n0_8 c0_8) rfl (by kernel_rfl) ?_
          exact ⟨_, _, _, rfl, (by rw [show vs.length = i by omega]; exact ho0_8), c154⟩
    · refine W.sn (fun b => .slice (some ⟨b, 0, none⟩) 0 0) #[] 3 s15 rfl (by kernel_rfl) rfl (fun _ => by kernel_rfl) (fun b242 w243 hb244 k245 x246 s247 => ?_)
      have lo248 : w.heap.size ≤ b242 := by have := ((SG.belowR c9 s15 (fun kq e => by cases e))).size; omega
      have ne249 : b2 ≠ b242 := by have := blk_lt x6; have := World.grownBy.size s15; omega
      refine W.sc (vs := [.int .i64 (findL ps a)]) rfl rfl (by kernel_rfl) (by kernel_rfl) (by kernel_rfl) rfl (element_any (findL ps a) _ (by omega)) ?_
      rintro e w' ⟨rfl, rfl⟩
      refine ⟨_, rfl, s247, ?_⟩
      have lb257 := blk_lt x246
      refine W.sc (vs := [.agg #[.int .i64 m, .slice A n c], .slice A2 n2 c2, .int .i64 (9 + (findL ps a))]) rfl rfl (by kernel_rfl) (by kernel_rfl) (by kernel_rfl) rfl (segmentOf_any m A n c ps A2 n2 c2 vs (9 + (findL ps a)) (9 + (findL ps a)).toNat _ (Rd.kept ha (SG.belowR c9 s247 (fun kq e => by cases e))) (Rd.kept hb (SG.belowR c9 s247 (fun kq e => by cases e))) (by omega) (by omega) hp (by omega) (by omega) (by omega) (by omega)) ?_
      rintro e w259 ⟨pb252, rfl, lo256, rd253, b258⟩
      have s260 := SG.of_below s247 b258
      refine ⟨_, rfl, s260, ?_⟩
      have x246 := (b258.block _ (blk_lt x246)).trans x246
      have sp261 : Sp (some ⟨pb252, 0, none⟩) 19 (some b2) := sp_ptrB (Nat.lt_of_lt_of_le (Nat.lt_of_lt_of_le (blk_lt x6) (World.grownBy.size s247)) lo256)
      have sp262 : Sp (some ⟨pb252, 0, none⟩) 19 (some b242) := sp_ptrB (Nat.lt_of_lt_of_le lb257 lo256)
      have hl254 := rd_bools_len rd253
      rw [wetL_len] at hl254
      have hl254 : (wetL (linked ps (openQ vs false)) (9 + (findL ps a))).length = 19 := wetL_len _ _
      refine W.sq (v := .pointer (some ⟨pb252, 0, none⟩)) rfl (r_assign rfl (by kernel_rfl)) (by kernel_rfl) rfl rfl ?_
      refine W.sq (v := .slice (some ⟨b242, 0, none⟩) 0 0) rfl (r_assign rfl (by kernel_rfl)) (by kernel_rfl) rfl rfl ?_
      refine W.sch_endU (fun U263 => [.agg #[.int .i64 m, .slice A n c], .slice A2 n2 c2, .int .i64 a, .pointer (some ⟨b2, 0, none⟩), undef, undef, .slice none 0 0, .pointer (some ⟨pb252, 0, none⟩), .slice (some ⟨b242, 0, none⟩) 0 0, undef, undef, U263 11, U263 12, U263 13, U263 14, U263 15, U263 16, U263 17, U263 18, undef, undef, undef, undef, undef, undef, undef, undef, undef, undef, undef, undef, undef, undef, undef, undef, undef, undef, undef, undef, undef, undef, undef, undef, undef, undef, undef, undef, undef]) (by kernel_rfl) (fun U263 => ?_)
      have x6 := SG.blk s260 x6 (by simp)
      have c264 := (SG.belowR c9 s260 (fun kq e => by cases e))
      refine h2 _ _ ?_
      refine wp_seq_k (fun K23 h23 => ?_)
      refine wp_seq_k (fun K24 h24 => ?_)
      refine W.region_quiet [(0, false), (1, false), (2, false)] (by kernel_rfl) ?_
      refine W.sq (v := .slice A2 n2 c2) rfl (r_move rfl (by kernel_rfl)) (by kernel_rfl) rfl rfl ?_
      refine W.sq (v := .int .i64 ((n2 : Nat) : Int)) rfl (r_len (A := A2) (n := n2) (c := c2) rfl (by kernel_rfl) (by kernel_rfl)) (by kernel_rfl) rfl rfl ?_
      refine W.sq (v := .int .i64 0) rfl (r_move rfl (by kernel_rfl)) (by kernel_rfl) rfl rfl ?_
      refine W.sch_end (l' := [.agg #[.int .i64 m, .slice A n c], .slice A2 n2 c2, .int .i64 a, .pointer (some ⟨b2, 0, none⟩), undef, undef, .slice none 0 0, .pointer (some ⟨pb252, 0, none⟩), .slice (some ⟨b242, 0, none⟩) 0 0, undef, undef, (U263 11), (U263 12), (U263 13), (U263 14), (U263 15), (U263 16), (U263 17), (U263 18), .slice A2 n2 c2, .int .i64 ((n2 : Nat) : Int), .int .i64 0, undef, undef, undef, undef, undef, undef, undef, undef, undef, undef, undef, undef, undef, undef, undef, undef, undef, undef, undef, undef, undef, undef, undef, undef, undef, undef]) (by kernel_rfl) ?_
      refine h24 _ _ ?_
      refine wp_block ?_
      have ho265 := own_empty (base := w.heap.size) (size := 1) x246 lo248
      replace ho265 : World.ownsRow _ _ _ _ _ _ (intsV []) := ho265
      have sp266 := sp_own (n' := 0) (c := 0) sp262
      have nb267 : Nb b2 (.slice (some ⟨b242, 0, none⟩) 0 0) := nb_new (by have := ne249; omega)
      refine loopK (fun am0 aa0 wl0 => ∃ (i : Nat) (A0_8 : Option Addr) (n0_8 : Nat) (c0_8 : Nat) (U0 : Nat → Value), aa0 = ⟨[.agg #[.int .i64 m, .slice A n c], .slice A2 n2 c2, .int .i64 a, .pointer (some ⟨b2, 0, none⟩), undef, undef, .slice none 0 0, .pointer (some ⟨pb252, 0, none⟩), .slice A0_8 n0_8 c0_8, U0 9, U0 10, (U263 11), (U263 12), (U263 13), (U263 14), (U263 15), (U263 16), (U263 17), (U263 18), .slice A2 n2 c2, .int .i64 ((n2 : Nat) : Int), .int .i64 ((i : Nat) : Int), U0 22, U0 23, U0 24, U0 25, U0 26, U0 27, U0 28, U0 29, U0 30, U0 31, U0 32, U0 33, U0 34, U0 35, U0 36, U0 37, U0 38, U0 39, U0 40, U0 41, U0 42, U0 43, U0 44, U0 45, U0 46, undef].toArray, []⟩ ∧ (am0 = n2 - i) ∧ (i ≤ n2) ∧ (n0_8 ≤ i) ∧ (wl0.heap[b2]? = some (.cells #[.int .i64 m, .slice A n c] 31 (0, 0))) ∧ (wl0.ownsRow w.heap.size 3 1 (.slice A0_8 n0_8 c0_8) n0_8 (intsV (aroundI ps vs (9 + findL ps a) i))) ∧ (Nb b2 (.slice A0_8 n0_8 c0_8)) ∧ (Rd wl0 1 (some ⟨pb252, 0, none⟩) 19 (boolsV (wetL (linked ps (openQ vs false)) (9 + (findL ps a))))) ∧ (Sp (some ⟨pb252, 0, none⟩) 19 (Value.ownBlock (.slice A0_8 n0_8 c0_8))) ∧ (Below w.heap.size w wl0)) (n2 - 0) ?_ ?_
      · exact ⟨0, (some ⟨b242, 0, none⟩), 0, 0, (fun iU9 => [.agg #[.int .i64 m, .slice A n c], .slice A2 n2 c2, .int .i64 a, .pointer (some ⟨b2, 0, none⟩), undef, undef, .slice none 0 0, .pointer (some ⟨pb252, 0, none⟩), .slice (some ⟨b242, 0, none⟩) 0 0, undef, undef, (U263 11), (U263 12), (U263 13), (U263 14), (U263 15), (U263 16), (U263 17), (U263 18), .slice A2 n2 c2, .int .i64 ((n2 : Nat) : Int), .int .i64 0, undef, undef, undef, undef, undef, undef, undef, undef, undef, undef, undef, undef, undef, undef, undef, undef, undef, undef, undef, undef, undef, undef, undef, undef, undef, undef].getD iU9 undef), (by kernel_rfl), rfl, (Nat.zero_le _), (Nat.zero_le _), x6, ho265, nb267, rd253, sp266, c264⟩
      rintro am0 aa0 wl0 K25 h25 ⟨i, A0_8, n0_8, c0_8, U0, rfl, rfl, hi, hb8, x6, ho0_8, nb0_8_b2, rd0_7, sp0_7_8, c268⟩
      refine wp_seq_k (fun K26 h26 => ?_)
      refine W.region_quiet [(0, false)] (by kernel_rfl) ?_
      by_cases q269 : (((i : Nat) : Int) : Int) < (((n2 : Nat) : Int) : Int)
      · refine W.sq (v := .bool true) rfl (r_lss (m := ((i : Nat) : Int)) (n := ((n2 : Nat) : Int)) rfl (by kernel_rfl) (by kernel_rfl) (decide_eq_true q269)) (by kernel_rfl) rfl rfl ?_
        refine W.sch_end (l' := [.agg #[.int .i64 m, .slice A n c], .slice A2 n2 c2, .int .i64 a, .pointer (some ⟨b2, 0, none⟩), undef, undef, .slice none 0 0, .pointer (some ⟨pb252, 0, none⟩), .slice A0_8 n0_8 c0_8, (U0 9), (U0 10), (U263 11), (U263 12), (U263 13), (U263 14), (U263 15), (U263 16), (U263 17), (U263 18), .slice A2 n2 c2, .int .i64 ((n2 : Nat) : Int), .int .i64 ((i : Nat) : Int), .bool true, (U0 23), (U0 24), (U0 25), (U0 26), (U0 27), (U0 28), (U0 29), (U0 30), (U0 31), (U0 32), (U0 33), (U0 34), (U0 35), (U0 36), (U0 37), (U0 38), (U0 39), (U0 40), (U0 41), (U0 42), (U0 43), (U0 44), (U0 45), (U0 46), undef]) (by kernel_rfl) ?_
        refine h26 _ _ ?_
        refine wp_seq_k (fun K27 h27 => ?_)
        refine wp_cond_true (by kernel_rfl) ?_
        refine wp_skip ?_
        refine h27 _ _ ?_
        refine wp_seq_k (fun K28 h28 => ?_)
        refine wp_block ?_
        refine wp_seq_k (fun K29 h29 => ?_)
        refine W.region_plain (row := none) [(0, false), (1, false), (2, false), (3, true), (4, false), (5, true)] (by kernel_rfl) ?_
        have s270 := SG.self wl0 none
        refine W.sq (v := .int .i64 ((i : Nat) : Int)) rfl (r_move rfl (by kernel_rfl)) (by kernel_rfl) rfl rfl ?_
        obtain ⟨x271, hx272⟩ := get_of (zs := vs) (k := i) (by have := hl2; omega)
        obtain ⟨b273, o274, hA275, hb276, hc277, hc278, hc279, hc280⟩ := Rd.elValve hb hx272
        refine W.sq (v := .pointer (some ⟨b273, o274 + i * 4, none⟩)) rfl (r_idx (n := n2) (c := c2) (k := i) rfl (by kernel_rfl) hA275 (by kernel_rfl) (by kernel_rfl) (by have := hl2; omega)) (by kernel_rfl) rfl rfl ?_
        refine W.sq (v := .agg #[.int .i64 x271.id, .int .i64 x271.pipe, .int .i64 x271.node, .bool x271.shut]) rfl (r_load4 rfl (by kernel_rfl) (by kernel_rfl) (by kernel_rfl) (sgS (later c268 hc277) (by simp)) (sgS (later c268 hc278) (by simp)) (sgS (later c268 hc279) (by simp)) (sgS (later c268 hc280) (by simp))) (by kernel_rfl) rfl rfl ?_
        refine W.sn (fun b => .pointer (some ⟨b, 0, none⟩)) #[.int .i64 0, .int .i64 0, .int .i64 0, .bool false] 59 s270 rfl (by kernel_rfl) rfl (fun _ => by kernel_rfl) (fun b281 w282 hb283 k284 x285 s286 => ?_)
        have lo287 : w.heap.size ≤ b281 := by have := ((SG.belowR c268 s270 (fun kq e => by cases e))).size; omega
        have sp288 : Sp (some ⟨pb252, 0, none⟩) 19 (some b281) := sp_new rd0_7 (by have := World.grownBy.size s270; have := hb283; omega)
        have ne289 : b2 ≠ b281 := by have := blk_lt x6; have := World.grownBy.size s270; omega
        have nb290 : Nb b281 (.slice A0_8 n0_8 c0_8) := nb_hi ho0_8 (Nat.le_of_eq hb283)
        have ho291 := own_kept ho0_8 k284
        refine W.sq (v := .int .i64 ((i : Nat) : Int)) rfl (r_assign rfl (by kernel_rfl)) (by kernel_rfl) rfl rfl ?_
        refine W.ss (v := .agg #[.int .i64 x271.id, .int .i64 x271.pipe, .int .i64 x271.node, .bool x271.shut]) (j := 0) (news := [.int .i64 x271.id, .int .i64 x271.pipe, .int .i64 x271.node, .bool x271.shut]) (cs' := #[.int .i64 x271.id, .int .i64 x271.pipe, .int .i64 x271.node, .bool x271.shut]) s286 rfl (by kernel_rfl) rfl rfl (by kernel_rfl) (by kernel_rfl) x285 (by kernel_rfl) (by kernel_rfl) (by simp) (by kernel_rfl) (by kernel_rfl) (.inr (by have := World.grownBy.size s270; have := hb283; omega)) (fun w292 g293 x294 s295 => ?_)
        have ho296 := own_grown ho291 g293 (fun j e1 e2 => by cases e2; exact nb290 e1.symm)
        refine W.sch_endU (fun U297 => [.agg #[.int .i64 m, .slice A n c], .slice A2 n2 c2, .int .i64 a, .pointer (some ⟨b2, 0, none⟩), undef, undef, .slice none 0 0, .pointer (some ⟨pb252, 0, none⟩), .slice A0_8 n0_8 c0_8, .int .i64 ((i : Nat) : Int), .pointer (some ⟨b281, 0, none⟩), (U263 11), (U263 12), (U263 13), (U263 14), (U263 15), (U263 16), (U263 17), (U263 18), .slice A2 n2 c2, .int .i64 ((n2 : Nat) : Int), .int .i64 ((i : Nat) : Int), .bool true, U297 23, U297 24, U297 25, (U0 26), (U0 27), (U0 28), (U0 29), (U0 30), (U0 31), (U0 32), (U0 33), (U0 34), (U0 35), (U0 36), (U0 37), (U0 38), (U0 39), (U0 40), (U0 41), (U0 42), (U0 43), (U0 44), (U0 45), (U0 46), undef]) (by kernel_rfl) (fun U297 => ?_)
        have x6 := SG.blk s295 x6 (by simp)
        have c298 := (SG.belowR c268 s295 (fun kq e => by cases e))
        have rd299 := Rd.kept rd0_7 (SG.below s295)
        refine h29 _ _ ?_
        refine wp_seq_k (fun K30 h30 => ?_)
        refine W.region_sch (row := none) (Sch.of [(0, false), (1, false), (2, false), (3, false), (4, false), (5, false), (6, false), (7, false), (8, false), (9, false), (12, false), (10, true), (11, true), (13, false), (14, false), (15, false)]) (by kernel_rfl) (by kernel_rfl) (fun _ d _ _ _ h => by cases d <;> exact h) (by kernel_rfl) (fun w300 e301 s302 => ?_)
        have ho303 := own_heap ho296 e301
        refine W.sq (v := .pointer (some ⟨pb252, 0, none⟩)) rfl (r_move rfl (by kernel_rfl)) (by kernel_rfl) rfl rfl ?_
        refine W.sq (v := .pointer (some ⟨b281, 2, none⟩)) rfl (r_field (k := 2) rfl (by kernel_rfl) (by kernel_rfl)) (by kernel_rfl) rfl rfl ?_
        refine W.sq (v := .int .i64 x271.node) rfl (r_load rfl (by kernel_rfl) (by kernel_rfl) (sgS (blk_cell (j := 2) x294 (by kernel_rfl)) (by simp))) (by kernel_rfl) rfl rfl ?_
        refine W.sq (v := .pointer (some ⟨pb252, 0, none⟩)) rfl (r_nilCheck rfl (by kernel_rfl)) (by kernel_rfl) rfl rfl ?_
        obtain ⟨kz, pz, ekz, hkz, hpz, hnz⟩ := hv9.place x271 (List.mem_of_getElem? hx272)
        have hgz := hg.at hpz
        obtain ⟨x304, hx305⟩ := get_of (zs := (wetL (linked ps (openQ vs false)) (9 + (findL ps a)))) (k := x271.node.toNat) (by have := hl254; omega)
        obtain ⟨hb306, hc307⟩ := Rd.elBool rd299 hx305
        refine W.sq (v := .pointer (some ⟨pb252, x271.node.toNat, none⟩)) rfl (r_idxA (len := 19) (k := x271.node.toNat) rfl (by kernel_rfl) (evk (z := x271.node) (by kernel_rfl) (by omega)) (by kernel_rfl) (by omega)) (by kernel_rfl) rfl rfl ?_
        refine W.sq (v := .bool x304) rfl (r_load rfl (by kernel_rfl) (by kernel_rfl) (sgS hc307 (by simp))) (by kernel_rfl) rfl rfl ?_
        refine W.sq (v := .pointer (some ⟨pb252, 0, none⟩)) rfl (r_move rfl (by kernel_rfl)) (by kernel_rfl) rfl rfl ?_
        refine W.sq (v := .agg #[.int .i64 m, .slice A n c]) rfl (r_load2 rfl (by kernel_rfl) (by kernel_rfl) (by kernel_rfl) (sgS (blk_cell (j := 0) x6 (by kernel_rfl)) (by simp)) (sgS (blk_cell (j := 1) x6 (by kernel_rfl)) (by simp))) (by kernel_rfl) rfl rfl ?_
        refine W.sq (v := .pointer (some ⟨b281, 1, none⟩)) rfl (r_field (k := 1) rfl (by kernel_rfl) (by kernel_rfl)) (by kernel_rfl) rfl rfl ?_
        refine W.sq (v := .int .i64 x271.pipe) rfl (r_load rfl (by kernel_rfl) (by kernel_rfl) (sgS (blk_cell (j := 1) x294 (by kernel_rfl)) (by simp))) (by kernel_rfl) rfl rfl ?_
        refine W.sq (v := .pointer (some ⟨pb252, 0, none⟩)) rfl (r_nilCheck rfl (by kernel_rfl)) (by kernel_rfl) rfl rfl ?_
        refine W.sc (vs := [.agg #[.int .i64 m, .slice A n c], .int .i64 x271.pipe]) rfl rfl (by kernel_rfl) (by kernel_rfl) (by kernel_rfl) rfl (pipeIndex_any m A n c ps x271.pipe _ (Rd.kept ha (SG.belowR c298 s302 (fun kq e => by cases e))) (by omega)) ?_
        rintro e w309 ⟨rfl, b308⟩
        have s310 := SG.of_below s302 b308
        refine ⟨_, rfl, s310, ?_⟩
        have ho311 := own_kept ho303 b308
        refine W.sc (vs := [.int .i64 (findL ps x271.pipe)]) rfl rfl (by kernel_rfl) (by kernel_rfl) (by kernel_rfl) rfl (element_any (findL ps x271.pipe) _ (by omega)) ?_
        rintro e w' ⟨rfl, rfl⟩
        refine ⟨_, rfl, s310, ?_⟩
        obtain ⟨x314, hx315⟩ := get_of (zs := (wetL (linked ps (openQ vs false)) (9 + (findL ps a)))) (k := (9 + kz)) (by have := hl254; omega)
        obtain ⟨hb316, hc317⟩ := Rd.elBool rd299 hx315
        refine W.sq (v := .pointer (some ⟨pb252, (9 + kz), none⟩)) rfl (r_idxA (len := 19) (k := (9 + kz)) rfl (by kernel_rfl) (evk (z := 9 + (findL ps x271.pipe)) (by kernel_rfl) (by omega)) (by kernel_rfl) (by omega)) (by kernel_rfl) rfl rfl ?_
        refine W.sq (v := .bool x314) rfl (r_load rfl (by kernel_rfl) (by kernel_rfl) (sgS hc317 (by simp))) (by kernel_rfl) rfl rfl ?_
        by_cases q318 : x304 = x314
        · refine W.sq (v := .bool false) rfl (r_neqB (m := x304) (n := x314) rfl (by kernel_rfl) (by kernel_rfl) (by kernel_rfl) (by rw [(beq_iff_eq.2 q318)]; rfl)) (by kernel_rfl) rfl rfl ?_
          refine W.sch_endU (fun U319 => [.agg #[.int .i64 m, .slice A n c], .slice A2 n2 c2, .int .i64 a, .pointer (some ⟨b2, 0, none⟩), undef, undef, .slice none 0 0, .pointer (some ⟨pb252, 0, none⟩), .slice A0_8 n0_8 c0_8, .int .i64 ((i : Nat) : Int), .pointer (some ⟨b281, 0, none⟩), (U263 11), (U263 12), (U263 13), (U263 14), (U263 15), (U263 16), (U263 17), (U263 18), .slice A2 n2 c2, .int .i64 ((n2 : Nat) : Int), .int .i64 ((i : Nat) : Int), .bool true, (U297 23), (U297 24), (U297 25), U319 26, U319 27, U319 28, U319 29, U319 30, U319 31, U319 32, U319 33, U319 34, U319 35, U319 36, U319 37, U319 38, U319 39, U319 40, .bool false, (U0 42), (U0 43), (U0 44), (U0 45), (U0 46), undef]) (by kernel_rfl) (fun U319 => ?_)
          have x6 := SG.blk s310 x6 (by simp)
          have x294 := SG.blk s310 x294 (by simp)
          have c320 := (SG.belowR c298 s310 (fun kq e => by cases e))
          have rd321 := Rd.kept rd299 (SG.below s310)
          refine h30 _ _ ?_
          refine wp_cond_false (by kernel_rfl) ?_
          refine wp_skip ?_
          refine h28 _ _ ?_
          refine W.region_quiet [(0, false), (1, false)] (by kernel_rfl) ?_
          refine W.sq (v := .int .i64 ((i + 1 : Nat) : Int)) rfl (r_add (m := ((i : Nat) : Int)) (n := 1) (z := ((i + 1 : Nat) : Int)) rfl (by kernel_rfl) (by kernel_rfl) (by omega) (by omega)) (by kernel_rfl) rfl rfl ?_
          refine W.sq (v := .int .i64 ((i + 1 : Nat) : Int)) rfl (r_move rfl (by kernel_rfl)) (by kernel_rfl) rfl rfl ?_
          refine W.sch_endU (fun U322 => [.agg #[.int .i64 m, .slice A n c], .slice A2 n2 c2, .int .i64 a, .pointer (some ⟨b2, 0, none⟩), undef, undef, .slice none 0 0, .pointer (some ⟨pb252, 0, none⟩), .slice A0_8 n0_8 c0_8, .int .i64 ((i : Nat) : Int), .pointer (some ⟨b281, 0, none⟩), (U263 11), (U263 12), (U263 13), (U263 14), (U263 15), (U263 16), (U263 17), (U263 18), .slice A2 n2 c2, .int .i64 ((n2 : Nat) : Int), .int .i64 ((i + 1 : Nat) : Int), .bool true, (U297 23), (U297 24), (U297 25), (U319 26), (U319 27), (U319 28), (U319 29), (U319 30), (U319 31), (U319 32), (U319 33), (U319 34), (U319 35), (U319 36), (U319 37), (U319 38), (U319 39), (U319 40), .bool false, (U0 42), (U0 43), (U0 44), (U0 45), U322 46, undef]) (by kernel_rfl) (fun U322 => ?_)
          exact h25 _ _ _ (by omega : (n2 - (i + 1)) < _) ⟨i + 1, A0_8, n0_8, c0_8, (fun iU9 => [.agg #[.int .i64 m, .slice A n c], .slice A2 n2 c2, .int .i64 a, .pointer (some ⟨b2, 0, none⟩), undef, undef, .slice none 0 0, .pointer (some ⟨pb252, 0, none⟩), .slice A0_8 n0_8 c0_8, .int .i64 ((i : Nat) : Int), .pointer (some ⟨b281, 0, none⟩), (U263 11), (U263 12), (U263 13), (U263 14), (U263 15), (U263 16), (U263 17), (U263 18), .slice A2 n2 c2, .int .i64 ((n2 : Nat) : Int), .int .i64 ((i + 1 : Nat) : Int), .bool true, (U297 23), (U297 24), (U297 25), (U319 26), (U319 27), (U319 28), (U319 29), (U319 30), (U319 31), (U319 32), (U319 33), (U319 34), (U319 35), (U319 36), (U319 37), (U319 38), (U319 39), (U319 40), .bool false, (U0 42), (U0 43), (U0 44), (U0 45), (U322 46), undef].getD iU9 undef), (by kernel_rfl), rfl, (by omega), (by omega), x6, (by rw [aroundI_no hx272 (by have h9 := wet_eqI (b := x271.node) hx305 (by omega); have h8 := wet_eqI (b := 9 + findL ps x271.pipe) hx315 (by omega); rw [← h9, ← h8]; exact q318)]; exact ho311), nb0_8_b2, rd321, sp0_7_8, c320⟩
        · refine W.sq (v := .bool true) rfl (r_neqB (m := x304) (n := x314) rfl (by kernel_rfl) (by kernel_rfl) (by kernel_rfl) (by rw [(beq_eq_false_iff_ne.2 q318)]; rfl)) (by kernel_rfl) rfl rfl ?_
          refine W.sch_endU (fun U323 => [.agg #[.int .i64 m, .slice A n c], .slice A2 n2 c2, .int .i64 a, .pointer (some ⟨b2, 0, none⟩), undef, undef, .slice none 0 0, .pointer (some ⟨pb252, 0, none⟩), .slice A0_8 n0_8 c0_8, .int .i64 ((i : Nat) : Int), .pointer (some ⟨b281, 0, none⟩), (U263 11), (U263 12), (U263 13), (U263 14), (U263 15), (U263 16), (U263 17), (U263 18), .slice A2 n2 c2, .int .i64 ((n2 : Nat) : Int), .int .i64 ((i : Nat) : Int), .bool true, (U297 23), (U297 24), (U297 25), U323 26, U323 27, U323 28, U323 29, U323 30, U323 31, U323 32, U323 33, U323 34, U323 35, U323 36, U323 37, U323 38, U323 39, U323 40, .bool true, (U0 42), (U0 43), (U0 44), (U0 45), (U0 46), undef]) (by kernel_rfl) (fun U323 => ?_)
          have x6 := SG.blk s310 x6 (by simp)
          have x294 := SG.blk s310 x294 (by simp)
          have c324 := (SG.belowR c298 s310 (fun kq e => by cases e))
          have rd325 := Rd.kept rd299 (SG.below s310)
          refine h30 _ _ ?_
          refine wp_cond_true (by kernel_rfl) ?_
          refine W.region_plain (row := (Value.ownBlock (.slice A0_8 n0_8 c0_8))) [(0, false), (1, false), (2, true), (3, true), (4, false)] (by kernel_rfl) ?_
          have s326 := SG.self w309 (Value.ownBlock (.slice A0_8 n0_8 c0_8))
          refine W.sq (v := .slice A0_8 n0_8 c0_8) rfl (r_move rfl (by kernel_rfl)) (by kernel_rfl) rfl rfl ?_
          refine W.sq (v := .int .i64 ((i : Nat) : Int)) rfl (r_move rfl (by kernel_rfl)) (by kernel_rfl) rfl rfl ?_
          refine W.sn (fun b => .slice (some ⟨b, 0, none⟩) 1 1) #[.int .i64 ((i : Nat) : Int)] 3 s326 rfl (by kernel_rfl) rfl (fun _ => by kernel_rfl) (fun b327 w328 hb329 k330 x331 s332 => ?_)
          have lo333 : w.heap.size ≤ b327 := by have := ((SG.belowR c324 s326 (fun kq e => (World.ownsRow.lt ho311 kq e).1))).size; omega
          have sp334 : Sp (some ⟨pb252, 0, none⟩) 19 (some b327) := sp_new rd325 (by have := World.grownBy.size s326; have := hb329; omega)
          have ne335 : b2 ≠ b327 := by have := blk_lt x6; have := World.grownBy.size s326; omega
          have ne336 : b281 ≠ b327 := by have := blk_lt x294; have := World.grownBy.size s326; omega
          have nb337 : Nb b327 (.slice A0_8 n0_8 c0_8) := nb_hi ho311 (Nat.le_of_eq hb329)
          have ho338 := own_kept ho311 k330
          refine W.sap (e := 3) (size := 1) (base := w.heap.size) (m := 1) (v := .slice A0_8 n0_8 c0_8) (c := 1) s332 rfl rfl rfl rfl (by kernel_rfl) (by kernel_rfl) (by kernel_rfl) ho338 x331 (by kernel_rfl) (by kernel_rfl) (by omega) (by omega) (by have := ((SG.belowR c324 s332 (fun kq e => (World.ownsRow.lt ho311 kq e).1))).size; omega) (.inl rfl) (fun g339 cap340 w341 ho342 hg343 hat344 hlt345 s346 => ?_)
          have nb347 : Nb b2 (.slice (some ⟨g339, 0, none⟩) (n0_8 + 1) cap340) := nb_app nb0_8_b2 (Nat.lt_of_lt_of_le (blk_lt x6) (World.grownBy.size s332)) hat344
          have nb348 : Nb b281 (.slice (some ⟨g339, 0, none⟩) (n0_8 + 1) cap340) := nb_app nb290 (Nat.lt_of_lt_of_le (blk_lt x294) (World.grownBy.size s332)) hat344
          have nb349 : Nb b327 (.slice (some ⟨g339, 0, none⟩) (n0_8 + 1) cap340) := nb_app nb337 (blk_lt x331) hat344
          have x331 := (hg343.block _ (blk_lt x331) nb337).trans x331
          have ho342 := own_snoc ho342
          have sp350 := sp_app (v' := .slice (some ⟨g339, 0, none⟩) (n0_8 + 1) cap340) sp0_7_8 rd325 (World.grownBy.size s332) (hat3 (v := .slice A0_8 n0_8 c0_8) hat344)
          refine W.sq (v := .slice (some ⟨g339, 0, none⟩) (n0_8 + 1) cap340) rfl (r_assign rfl (by kernel_rfl)) (by kernel_rfl) rfl rfl ?_
          refine W.sch_endU (fun U351 => [.agg #[.int .i64 m, .slice A n c], .slice A2 n2 c2, .int .i64 a, .pointer (some ⟨b2, 0, none⟩), undef, undef, .slice none 0 0, .pointer (some ⟨pb252, 0, none⟩), .slice (some ⟨g339, 0, none⟩) (n0_8 + 1) cap340, .int .i64 ((i : Nat) : Int), .pointer (some ⟨b281, 0, none⟩), (U263 11), (U263 12), (U263 13), (U263 14), (U263 15), (U263 16), (U263 17), (U263 18), .slice A2 n2 c2, .int .i64 ((n2 : Nat) : Int), .int .i64 ((i : Nat) : Int), .bool true, (U297 23), (U297 24), (U297 25), (U323 26), (U323 27), (U323 28), (U323 29), (U323 30), (U323 31), (U323 32), (U323 33), (U323 34), (U323 35), (U323 36), (U323 37), (U323 38), (U323 39), (U323 40), .bool true, U351 42, U351 43, U351 44, U351 45, (U0 46), undef]) (by kernel_rfl) (fun U351 => ?_)
          have x6 := SG.blk s346 x6 nb0_8_b2
          have x294 := SG.blk s346 x294 nb290
          have c352 := (SG.belowR c324 s346 (fun kq e => (World.ownsRow.lt ho311 kq e).1))
          have rd353 := rd_sep rd325 s346 sp0_7_8
          refine h28 _ _ ?_
          refine W.region_quiet [(0, false), (1, false)] (by kernel_rfl) ?_
          refine W.sq (v := .int .i64 ((i + 1 : Nat) : Int)) rfl (r_add (m := ((i : Nat) : Int)) (n := 1) (z := ((i + 1 : Nat) : Int)) rfl (by kernel_rfl) (by kernel_rfl) (by omega) (by omega)) (by kernel_rfl) rfl rfl ?_
          refine W.sq (v := .int .i64 ((i + 1 : Nat) : Int)) rfl (r_move rfl (by kernel_rfl)) (by kernel_rfl) rfl rfl ?_
          refine W.sch_endU (fun U354 => [.agg #[.int .i64 m, .slice A n c], .slice A2 n2 c2, .int .i64 a, .pointer (some ⟨b2, 0, none⟩), undef, undef, .slice none 0 0, .pointer (some ⟨pb252, 0, none⟩), .slice (some ⟨g339, 0, none⟩) (n0_8 + 1) cap340, .int .i64 ((i : Nat) : Int), .pointer (some ⟨b281, 0, none⟩), (U263 11), (U263 12), (U263 13), (U263 14), (U263 15), (U263 16), (U263 17), (U263 18), .slice A2 n2 c2, .int .i64 ((n2 : Nat) : Int), .int .i64 ((i + 1 : Nat) : Int), .bool true, (U297 23), (U297 24), (U297 25), (U323 26), (U323 27), (U323 28), (U323 29), (U323 30), (U323 31), (U323 32), (U323 33), (U323 34), (U323 35), (U323 36), (U323 37), (U323 38), (U323 39), (U323 40), .bool true, (U351 42), (U351 43), (U351 44), (U351 45), U354 46, undef]) (by kernel_rfl) (fun U354 => ?_)
          exact h25 _ _ _ (by omega : (n2 - (i + 1)) < _) ⟨i + 1, (some ⟨g339, 0, none⟩), (n0_8 + 1), cap340, (fun iU9 => [.agg #[.int .i64 m, .slice A n c], .slice A2 n2 c2, .int .i64 a, .pointer (some ⟨b2, 0, none⟩), undef, undef, .slice none 0 0, .pointer (some ⟨pb252, 0, none⟩), .slice (some ⟨g339, 0, none⟩) (n0_8 + 1) cap340, .int .i64 ((i : Nat) : Int), .pointer (some ⟨b281, 0, none⟩), (U263 11), (U263 12), (U263 13), (U263 14), (U263 15), (U263 16), (U263 17), (U263 18), .slice A2 n2 c2, .int .i64 ((n2 : Nat) : Int), .int .i64 ((i + 1 : Nat) : Int), .bool true, (U297 23), (U297 24), (U297 25), (U323 26), (U323 27), (U323 28), (U323 29), (U323 30), (U323 31), (U323 32), (U323 33), (U323 34), (U323 35), (U323 36), (U323 37), (U323 38), (U323 39), (U323 40), .bool true, (U351 42), (U351 43), (U351 44), (U351 45), (U354 46), undef].getD iU9 undef), (by kernel_rfl), rfl, (by omega), (by omega), x6, (by rw [aroundI_yes hx272 (by have h9 := wet_eqI (b := x271.node) hx305 (by omega); have h8 := wet_eqI (b := 9 + findL ps x271.pipe) hx315 (by omega); rw [← h9, ← h8]; exact q318)]; exact ho342), nb347, rd353, sp350, c352⟩
      · refine W.sq (v := .bool false) rfl (r_lss (m := ((i : Nat) : Int)) (n := ((n2 : Nat) : Int)) rfl (by kernel_rfl) (by kernel_rfl) (decide_eq_false q269)) (by kernel_rfl) rfl rfl ?_
        refine W.sch_end (l' := [.agg #[.int .i64 m, .slice A n c], .slice A2 n2 c2, .int .i64 a, .pointer (some ⟨b2, 0, none⟩), undef, undef, .slice none 0 0, .pointer (some ⟨pb252, 0, none⟩), .slice A0_8 n0_8 c0_8, (U0 9), (U0 10), (U263 11), (U263 12), (U263 13), (U263 14), (U263 15), (U263 16), (U263 17), (U263 18), .slice A2 n2 c2, .int .i64 ((n2 : Nat) : Int), .int .i64 ((i : Nat) : Int), .bool false, (U0 23), (U0 24), (U0 25), (U0 26), (U0 27), (U0 28), (U0 29), (U0 30), (U0 31), (U0 32), (U0 33), (U0 34), (U0 35), (U0 36), (U0 37), (U0 38), (U0 39), (U0 40), (U0 41), (U0 42), (U0 43), (U0 44), (U0 45), (U0 46), undef]) (by kernel_rfl) ?_
        refine h26 _ _ ?_
        refine wp_seq_k (fun K31 h31 => ?_)
        refine wp_cond_false (by kernel_rfl) ?_
        refine wp_exit ?_
        refine h23 _ _ ?_
        refine wp_seq_k (fun K32 h32 => ?_)
        refine W.region_quiet [(0, false), (1, false)] (by kernel_rfl) ?_
        refine W.sq (v := .slice A0_8 n0_8 c0_8) rfl (r_move rfl (by kernel_rfl)) (by kernel_rfl) rfl rfl ?_
        refine W.sq (v := .slice A0_8 n0_8 c0_8) rfl (r_assign rfl (by kernel_rfl)) (by kernel_rfl) rfl rfl ?_
        refine W.sch_endU (fun U355 => [.agg #[.int .i64 m, .slice A n c], .slice A2 n2 c2, .int .i64 a, .pointer (some ⟨b2, 0, none⟩), undef, undef, .slice A0_8 n0_8 c0_8, .pointer (some ⟨pb252, 0, none⟩), .slice A0_8 n0_8 c0_8, (U0 9), (U0 10), (U263 11), (U263 12), (U263 13), (U263 14), (U263 15), (U263 16), (U263 17), (U263 18), .slice A2 n2 c2, .int .i64 ((n2 : Nat) : Int), .int .i64 ((i : Nat) : Int), .bool false, (U0 23), (U0 24), (U0 25), (U0 26), (U0 27), (U0 28), (U0 29), (U0 30), (U0 31), (U0 32), (U0 33), (U0 34), (U0 35), (U0 36), (U0 37), (U0 38), (U0 39), (U0 40), (U0 41), (U0 42), (U0 43), (U0 44), (U0 45), (U0 46), U355 47]) (by kernel_rfl) (fun U355 => ?_)
        refine h32 _ _ ?_
        refine wp_ret ?_
        try simp only [Exit.then]
        refine ret1 (v := .slice A0_8 n0_8 c0_8) rfl (by kernel_rfl) ?_
        exact ⟨_, _, _, rfl, (by rw [show vs.length = i by omega]; exact ho0_8), c268⟩
  · refine W.sn (fun b => .slice (some ⟨b, 0, none⟩) 0 0) #[] 3 s12 rfl (by kernel_rfl) rfl (fun _ => by kernel_rfl) (fun b356 w357 hb358 k359 x360 s361 => ?_)
    have lo362 : w.heap.size ≤ b356 := by have := ((SG.belowR c9 s12 (fun kq e => by cases e))).size; omega
    have ne363 : b2 ≠ b356 := by have := blk_lt x6; have := World.grownBy.size s12; omega
    refine W.sc (vs := [.agg #[.int .i64 m, .slice A n c], .int .i64 a]) rfl rfl (by kernel_rfl) (by kernel_rfl) (by kernel_rfl) rfl (pipeIndex_any m A n c ps a _ (Rd.kept ha (SG.belowR c9 s361 (fun kq e => by cases e))) (by omega)) ?_
    rintro e w365 ⟨rfl, b364⟩
    have s366 := SG.of_below s361 b364
    refine ⟨_, rfl, s366, ?_⟩
    have x360 := (b364.block _ (blk_lt x360)).trans x360
    refine W.sc (vs := [.int .i64 (findL ps a)]) rfl rfl (by kernel_rfl) (by kernel_rfl) (by kernel_rfl) rfl (element_any (findL ps a) _ (by omega)) ?_
    rintro e w' ⟨rfl, rfl⟩
    refine ⟨_, rfl, s366, ?_⟩
    have lb374 := blk_lt x360
    refine W.sc (vs := [.agg #[.int .i64 m, .slice A n c], .slice A2 n2 c2, .int .i64 (9 + (findL ps a))]) rfl rfl (by kernel_rfl) (by kernel_rfl) (by kernel_rfl) rfl (segmentOf_any m A n c ps A2 n2 c2 vs (9 + (findL ps a)) (9 + (findL ps a)).toNat _ (Rd.kept ha (SG.belowR c9 s366 (fun kq e => by cases e))) (Rd.kept hb (SG.belowR c9 s366 (fun kq e => by cases e))) (by omega) (by omega) hp (by omega) (by omega) (by omega) (by omega)) ?_
    rintro e w376 ⟨pb369, rfl, lo373, rd370, b375⟩
    have s377 := SG.of_below s366 b375
    refine ⟨_, rfl, s377, ?_⟩
    have x360 := (b375.block _ (blk_lt x360)).trans x360
    have sp378 : Sp (some ⟨pb369, 0, none⟩) 19 (some b2) := sp_ptrB (Nat.lt_of_lt_of_le (Nat.lt_of_lt_of_le (blk_lt x6) (World.grownBy.size s366)) lo373)
    have sp379 : Sp (some ⟨pb369, 0, none⟩) 19 (some b356) := sp_ptrB (Nat.lt_of_lt_of_le lb374 lo373)
    have hl371 := rd_bools_len rd370
    rw [wetL_len] at hl371
    have hl371 : (wetL (linked ps (openQ vs false)) (9 + (findL ps a))).length = 19 := wetL_len _ _
    refine W.sq (v := .pointer (some ⟨pb369, 0, none⟩)) rfl (r_assign rfl (by kernel_rfl)) (by kernel_rfl) rfl rfl ?_
    refine W.sq (v := .slice (some ⟨b356, 0, none⟩) 0 0) rfl (r_assign rfl (by kernel_rfl)) (by kernel_rfl) rfl rfl ?_
    refine W.sch_endU (fun U380 => [.agg #[.int .i64 m, .slice A n c], .slice A2 n2 c2, .int .i64 a, .pointer (some ⟨b2, 0, none⟩), undef, undef, .slice none 0 0, .pointer (some ⟨pb369, 0, none⟩), .slice (some ⟨b356, 0, none⟩) 0 0, undef, undef, U380 11, U380 12, U380 13, U380 14, U380 15, U380 16, U380 17, U380 18, undef, undef, undef, undef, undef, undef, undef, undef, undef, undef, undef, undef, undef, undef, undef, undef, undef, undef, undef, undef, undef, undef, undef, undef, undef, undef, undef, undef, undef]) (by kernel_rfl) (fun U380 => ?_)
    have x6 := SG.blk s377 x6 (by simp)
    have c381 := (SG.belowR c9 s377 (fun kq e => by cases e))
    refine h2 _ _ ?_
    refine wp_seq_k (fun K33 h33 => ?_)
    refine wp_seq_k (fun K34 h34 => ?_)
    refine W.region_quiet [(0, false), (1, false), (2, false)] (by kernel_rfl) ?_
    refine W.sq (v := .slice A2 n2 c2) rfl (r_move rfl (by kernel_rfl)) (by kernel_rfl) rfl rfl ?_
    refine W.sq (v := .int .i64 ((n2 : Nat) : Int)) rfl (r_len (A := A2) (n := n2) (c := c2) rfl (by kernel_rfl) (by kernel_rfl)) (by kernel_rfl) rfl rfl ?_
    refine W.sq (v := .int .i64 0) rfl (r_move rfl (by kernel_rfl)) (by kernel_rfl) rfl rfl ?_
    refine W.sch_end (l' := [.agg #[.int .i64 m, .slice A n c], .slice A2 n2 c2, .int .i64 a, .pointer (some ⟨b2, 0, none⟩), undef, undef, .slice none 0 0, .pointer (some ⟨pb369, 0, none⟩), .slice (some ⟨b356, 0, none⟩) 0 0, undef, undef, (U380 11), (U380 12), (U380 13), (U380 14), (U380 15), (U380 16), (U380 17), (U380 18), .slice A2 n2 c2, .int .i64 ((n2 : Nat) : Int), .int .i64 0, undef, undef, undef, undef, undef, undef, undef, undef, undef, undef, undef, undef, undef, undef, undef, undef, undef, undef, undef, undef, undef, undef, undef, undef, undef, undef]) (by kernel_rfl) ?_
    refine h34 _ _ ?_
    refine wp_block ?_
    have ho382 := own_empty (base := w.heap.size) (size := 1) x360 lo362
    replace ho382 : World.ownsRow _ _ _ _ _ _ (intsV []) := ho382
    have sp383 := sp_own (n' := 0) (c := 0) sp379
    have nb384 : Nb b2 (.slice (some ⟨b356, 0, none⟩) 0 0) := nb_new (by have := ne363; omega)
    refine loopK (fun am0 aa0 wl0 => ∃ (i : Nat) (A0_8 : Option Addr) (n0_8 : Nat) (c0_8 : Nat) (U0 : Nat → Value), aa0 = ⟨[.agg #[.int .i64 m, .slice A n c], .slice A2 n2 c2, .int .i64 a, .pointer (some ⟨b2, 0, none⟩), undef, undef, .slice none 0 0, .pointer (some ⟨pb369, 0, none⟩), .slice A0_8 n0_8 c0_8, U0 9, U0 10, (U380 11), (U380 12), (U380 13), (U380 14), (U380 15), (U380 16), (U380 17), (U380 18), .slice A2 n2 c2, .int .i64 ((n2 : Nat) : Int), .int .i64 ((i : Nat) : Int), U0 22, U0 23, U0 24, U0 25, U0 26, U0 27, U0 28, U0 29, U0 30, U0 31, U0 32, U0 33, U0 34, U0 35, U0 36, U0 37, U0 38, U0 39, U0 40, U0 41, U0 42, U0 43, U0 44, U0 45, U0 46, undef].toArray, []⟩ ∧ (am0 = n2 - i) ∧ (i ≤ n2) ∧ (n0_8 ≤ i) ∧ (wl0.heap[b2]? = some (.cells #[.int .i64 m, .slice A n c] 31 (0, 0))) ∧ (wl0.ownsRow w.heap.size 3 1 (.slice A0_8 n0_8 c0_8) n0_8 (intsV (aroundI ps vs (9 + findL ps a) i))) ∧ (Nb b2 (.slice A0_8 n0_8 c0_8)) ∧ (Rd wl0 1 (some ⟨pb369, 0, none⟩) 19 (boolsV (wetL (linked ps (openQ vs false)) (9 + (findL ps a))))) ∧ (Sp (some ⟨pb369, 0, none⟩) 19 (Value.ownBlock (.slice A0_8 n0_8 c0_8))) ∧ (Below w.heap.size w wl0)) (n2 - 0) ?_ ?_
    · exact ⟨0, (some ⟨b356, 0, none⟩), 0, 0, (fun iU9 => [.agg #[.int .i64 m, .slice A n c], .slice A2 n2 c2, .int .i64 a, .pointer (some ⟨b2, 0, none⟩), undef, undef, .slice none 0 0, .pointer (some ⟨pb369, 0, none⟩), .slice (some ⟨b356, 0, none⟩) 0 0, undef, undef, (U380 11), (U380 12), (U380 13), (U380 14), (U380 15), (U380 16), (U380 17), (U380 18), .slice A2 n2 c2, .int .i64 ((n2 : Nat) : Int), .int .i64 0, undef, undef, undef, undef, undef, undef, undef, undef, undef, undef, undef, undef, undef, undef, undef, undef, undef, undef, undef, undef, undef, undef, undef, undef, undef, undef].getD iU9 undef), (by kernel_rfl), rfl, (Nat.zero_le _), (Nat.zero_le _), x6, ho382, nb384, rd370, sp383, c381⟩
    rintro am0 aa0 wl0 K35 h35 ⟨i, A0_8, n0_8, c0_8, U0, rfl, rfl, hi, hb8, x6, ho0_8, nb0_8_b2, rd0_7, sp0_7_8, c385⟩
    refine wp_seq_k (fun K36 h36 => ?_)
    refine W.region_quiet [(0, false)] (by kernel_rfl) ?_
    by_cases q386 : (((i : Nat) : Int) : Int) < (((n2 : Nat) : Int) : Int)
    · refine W.sq (v := .bool true) rfl (r_lss (m := ((i : Nat) : Int)) (n := ((n2 : Nat) : Int)) rfl (by kernel_rfl) (by kernel_rfl) (decide_eq_true q386)) (by kernel_rfl) rfl rfl ?_
      refine W.sch_end (l' := [.agg #[.int .i64 m, .slice A n c], .slice A2 n2 c2, .int .i64 a, .pointer (some ⟨b2, 0, none⟩), undef, undef, .slice none 0 0, .pointer (some ⟨pb369, 0, none⟩), .slice A0_8 n0_8 c0_8, (U0 9), (U0 10), (U380 11), (U380 12), (U380 13), (U380 14), (U380 15), (U380 16), (U380 17), (U380 18), .slice A2 n2 c2, .int .i64 ((n2 : Nat) : Int), .int .i64 ((i : Nat) : Int), .bool true, (U0 23), (U0 24), (U0 25), (U0 26), (U0 27), (U0 28), (U0 29), (U0 30), (U0 31), (U0 32), (U0 33), (U0 34), (U0 35), (U0 36), (U0 37), (U0 38), (U0 39), (U0 40), (U0 41), (U0 42), (U0 43), (U0 44), (U0 45), (U0 46), undef]) (by kernel_rfl) ?_
      refine h36 _ _ ?_
      refine wp_seq_k (fun K37 h37 => ?_)
      refine wp_cond_true (by kernel_rfl) ?_
      refine wp_skip ?_
      refine h37 _ _ ?_
      refine wp_seq_k (fun K38 h38 => ?_)
      refine wp_block ?_
      refine wp_seq_k (fun K39 h39 => ?_)
      refine W.region_plain (row := none) [(0, false), (1, false), (2, false), (3, true), (4, false), (5, true)] (by kernel_rfl) ?_
      have s387 := SG.self wl0 none
      refine W.sq (v := .int .i64 ((i : Nat) : Int)) rfl (r_move rfl (by kernel_rfl)) (by kernel_rfl) rfl rfl ?_
      obtain ⟨x388, hx389⟩ := get_of (zs := vs) (k := i) (by have := hl2; omega)
      obtain ⟨b390, o391, hA392, hb393, hc394, hc395, hc396, hc397⟩ := Rd.elValve hb hx389
      refine W.sq (v := .pointer (some ⟨b390, o391 + i * 4, none⟩)) rfl (r_idx (n := n2) (c := c2) (k := i) rfl (by kernel_rfl) hA392 (by kernel_rfl) (by kernel_rfl) (by have := hl2; omega)) (by kernel_rfl) rfl rfl ?_
      refine W.sq (v := .agg #[.int .i64 x388.id, .int .i64 x388.pipe, .int .i64 x388.node, .bool x388.shut]) rfl (r_load4 rfl (by kernel_rfl) (by kernel_rfl) (by kernel_rfl) (sgS (later c385 hc394) (by simp)) (sgS (later c385 hc395) (by simp)) (sgS (later c385 hc396) (by simp)) (sgS (later c385 hc397) (by simp))) (by kernel_rfl) rfl rfl ?_
      refine W.sn (fun b => .pointer (some ⟨b, 0, none⟩)) #[.int .i64 0, .int .i64 0, .int .i64 0, .bool false] 59 s387 rfl (by kernel_rfl) rfl (fun _ => by kernel_rfl) (fun b398 w399 hb400 k401 x402 s403 => ?_)
      have lo404 : w.heap.size ≤ b398 := by have := ((SG.belowR c385 s387 (fun kq e => by cases e))).size; omega
      have sp405 : Sp (some ⟨pb369, 0, none⟩) 19 (some b398) := sp_new rd0_7 (by have := World.grownBy.size s387; have := hb400; omega)
      have ne406 : b2 ≠ b398 := by have := blk_lt x6; have := World.grownBy.size s387; omega
      have nb407 : Nb b398 (.slice A0_8 n0_8 c0_8) := nb_hi ho0_8 (Nat.le_of_eq hb400)
      have ho408 := own_kept ho0_8 k401
      refine W.sq (v := .int .i64 ((i : Nat) : Int)) rfl (r_assign rfl (by kernel_rfl)) (by kernel_rfl) rfl rfl ?_
      refine W.ss (v := .agg #[.int .i64 x388.id, .int .i64 x388.pipe, .int .i64 x388.node, .bool x388.shut]) (j := 0) (news := [.int .i64 x388.id, .int .i64 x388.pipe, .int .i64 x388.node, .bool x388.shut]) (cs' := #[.int .i64 x388.id, .int .i64 x388.pipe, .int .i64 x388.node, .bool x388.shut]) s403 rfl (by kernel_rfl) rfl rfl (by kernel_rfl) (by kernel_rfl) x402 (by kernel_rfl) (by kernel_rfl) (by simp) (by kernel_rfl) (by kernel_rfl) (.inr (by have := World.grownBy.size s387; have := hb400; omega)) (fun w409 g410 x411 s412 => ?_)
      have ho413 := own_grown ho408 g410 (fun j e1 e2 => by cases e2; exact nb407 e1.symm)
      refine W.sch_endU (fun U414 => [.agg #[.int .i64 m, .slice A n c], .slice A2 n2 c2, .int .i64 a, .pointer (some ⟨b2, 0, none⟩), undef, undef, .slice none 0 0, .pointer (some ⟨pb369, 0, none⟩), .slice A0_8 n0_8 c0_8, .int .i64 ((i : Nat) : Int), .pointer (some ⟨b398, 0, none⟩), (U380 11), (U380 12), (U380 13), (U380 14), (U380 15), (U380 16), (U380 17), (U380 18), .slice A2 n2 c2, .int .i64 ((n2 : Nat) : Int), .int .i64 ((i : Nat) : Int), .bool true, U414 23, U414 24, U414 25, (U0 26), (U0 27), (U0 28), (U0 29), (U0 30), (U0 31), (U0 32), (U0 33), (U0 34), (U0 35), (U0 36), (U0 37), (U0 38), (U0 39), (U0 40), (U0 41), (U0 42), (U0 43), (U0 44), (U0 45), (U0 46), undef]) (by kernel_rfl) (fun U414 => ?_)
      have x6 := SG.blk s412 x6 (by simp)
      have c415 := (SG.belowR c385 s412 (fun kq e => by cases e))
      have rd416 := Rd.kept rd0_7 (SG.below s412)
      refine h39 _ _ ?_
      refine wp_seq_k (fun K40 h40 => ?_)
      refine W.region_sch (row := none) (Sch.of [(0, false), (1, false), (2, false), (3, false), (4, false), (5, false), (6, false), (7, false), (8, false), (9, false), (12, false), (10, true), (11, true), (13, false), (14, false), (15, false)]) (by kernel_rfl) (by kernel_rfl) (fun _ d _ _ _ h => by cases d <;> exact h) (by kernel_rfl) (fun w417 e418 s419 => ?_)
      have ho420 := own_heap ho413 e418
      refine W.sq (v := .pointer (some ⟨pb369, 0, none⟩)) rfl (r_move rfl (by kernel_rfl)) (by kernel_rfl) rfl rfl ?_
      refine W.sq (v := .pointer (some ⟨b398, 2, none⟩)) rfl (r_field (k := 2) rfl (by kernel_rfl) (by kernel_rfl)) (by kernel_rfl) rfl rfl ?_
      refine W.sq (v := .int .i64 x388.node) rfl (r_load rfl (by kernel_rfl) (by kernel_rfl) (sgS (blk_cell (j := 2) x411 (by kernel_rfl)) (by simp))) (by kernel_rfl) rfl rfl ?_
      refine W.sq (v := .pointer (some ⟨pb369, 0, none⟩)) rfl (r_nilCheck rfl (by kernel_rfl)) (by kernel_rfl) rfl rfl ?_
      obtain ⟨kz, pz, ekz, hkz, hpz, hnz⟩ := hv9.place x388 (List.mem_of_getElem? hx389)
      have hgz := hg.at hpz
      obtain ⟨x421, hx422⟩ := get_of (zs := (wetL (linked ps (openQ vs false)) (9 + (findL ps a)))) (k := x388.node.toNat) (by have := hl371; omega)
      obtain ⟨hb423, hc424⟩ := Rd.elBool rd416 hx422
      refine W.sq (v := .pointer (some ⟨pb369, x388.node.toNat, none⟩)) rfl (r_idxA (len := 19) (k := x388.node.toNat) rfl (by kernel_rfl) (evk (z := x388.node) (by kernel_rfl) (by omega)) (by kernel_rfl) (by omega)) (by kernel_rfl) rfl rfl ?_
      refine W.sq (v := .bool x421) rfl (r_load rfl (by kernel_rfl) (by kernel_rfl) (sgS hc424 (by simp))) (by kernel_rfl) rfl rfl ?_
      refine W.sq (v := .pointer (some ⟨pb369, 0, none⟩)) rfl (r_move rfl (by kernel_rfl)) (by kernel_rfl) rfl rfl ?_
      refine W.sq (v := .agg #[.int .i64 m, .slice A n c]) rfl (r_load2 rfl (by kernel_rfl) (by kernel_rfl) (by kernel_rfl) (sgS (blk_cell (j := 0) x6 (by kernel_rfl)) (by simp)) (sgS (blk_cell (j := 1) x6 (by kernel_rfl)) (by simp))) (by kernel_rfl) rfl rfl ?_
      refine W.sq (v := .pointer (some ⟨b398, 1, none⟩)) rfl (r_field (k := 1) rfl (by kernel_rfl) (by kernel_rfl)) (by kernel_rfl) rfl rfl ?_
      refine W.sq (v := .int .i64 x388.pipe) rfl (r_load rfl (by kernel_rfl) (by kernel_rfl) (sgS (blk_cell (j := 1) x411 (by kernel_rfl)) (by simp))) (by kernel_rfl) rfl rfl ?_
      refine W.sq (v := .pointer (some ⟨pb369, 0, none⟩)) rfl (r_nilCheck rfl (by kernel_rfl)) (by kernel_rfl) rfl rfl ?_
      refine W.sc (vs := [.agg #[.int .i64 m, .slice A n c], .int .i64 x388.pipe]) rfl rfl (by kernel_rfl) (by kernel_rfl) (by kernel_rfl) rfl (pipeIndex_any m A n c ps x388.pipe _ (Rd.kept ha (SG.belowR c415 s419 (fun kq e => by cases e))) (by omega)) ?_
      rintro e w426 ⟨rfl, b425⟩
      have s427 := SG.of_below s419 b425
      refine ⟨_, rfl, s427, ?_⟩
      have ho428 := own_kept ho420 b425
      refine W.sc (vs := [.int .i64 (findL ps x388.pipe)]) rfl rfl (by kernel_rfl) (by kernel_rfl) (by kernel_rfl) rfl (element_any (findL ps x388.pipe) _ (by omega)) ?_
      rintro e w' ⟨rfl, rfl⟩
      refine ⟨_, rfl, s427, ?_⟩
      obtain ⟨x431, hx432⟩ := get_of (zs := (wetL (linked ps (openQ vs false)) (9 + (findL ps a)))) (k := (9 + kz)) (by have := hl371; omega)
      obtain ⟨hb433, hc434⟩ := Rd.elBool rd416 hx432
      refine W.sq (v := .pointer (some ⟨pb369, (9 + kz), none⟩)) rfl (r_idxA (len := 19) (k := (9 + kz)) rfl (by kernel_rfl) (evk (z := 9 + (findL ps x388.pipe)) (by kernel_rfl) (by omega)) (by kernel_rfl) (by omega)) (by kernel_rfl) rfl rfl ?_
      refine W.sq (v := .bool x431) rfl (r_load rfl (by kernel_rfl) (by kernel_rfl) (sgS hc434 (by simp))) (by kernel_rfl) rfl rfl ?_
      by_cases q435 : x421 = x431
      · refine W.sq (v := .bool false) rfl (r_neqB (m := x421) (n := x431) rfl (by kernel_rfl) (by kernel_rfl) (by kernel_rfl) (by rw [(beq_iff_eq.2 q435)]; rfl)) (by kernel_rfl) rfl rfl ?_
        refine W.sch_endU (fun U436 => [.agg #[.int .i64 m, .slice A n c], .slice A2 n2 c2, .int .i64 a, .pointer (some ⟨b2, 0, none⟩), undef, undef, .slice none 0 0, .pointer (some ⟨pb369, 0, none⟩), .slice A0_8 n0_8 c0_8, .int .i64 ((i : Nat) : Int), .pointer (some ⟨b398, 0, none⟩), (U380 11), (U380 12), (U380 13), (U380 14), (U380 15), (U380 16), (U380 17), (U380 18), .slice A2 n2 c2, .int .i64 ((n2 : Nat) : Int), .int .i64 ((i : Nat) : Int), .bool true, (U414 23), (U414 24), (U414 25), U436 26, U436 27, U436 28, U436 29, U436 30, U436 31, U436 32, U436 33, U436 34, U436 35, U436 36, U436 37, U436 38, U436 39, U436 40, .bool false, (U0 42), (U0 43), (U0 44), (U0 45), (U0 46), undef]) (by kernel_rfl) (fun U436 => ?_)
        have x6 := SG.blk s427 x6 (by simp)
        have x411 := SG.blk s427 x411 (by simp)
        have c437 := (SG.belowR c415 s427 (fun kq e => by cases e))
        have rd438 := Rd.kept rd416 (SG.below s427)
        refine h40 _ _ ?_
        refine wp_cond_false (by kernel_rfl) ?_
        refine wp_skip ?_
        refine h38 _ _ ?_
        refine W.region_quiet [(0, false), (1, false)] (by kernel_rfl) ?_
        refine W.sq (v := .int .i64 ((i + 1 : Nat) : Int)) rfl (r_add (m := ((i : Nat) : Int)) (n := 1) (z := ((i + 1 : Nat) : Int)) rfl (by kernel_rfl) (by kernel_rfl) (by omega) (by omega)) (by kernel_rfl) rfl rfl ?_
        refine W.sq (v := .int .i64 ((i + 1 : Nat) : Int)) rfl (r_move rfl (by kernel_rfl)) (by kernel_rfl) rfl rfl ?_
        refine W.sch_endU (fun U439 => [.agg #[.int .i64 m, .slice A n c], .slice A2 n2 c2, .int .i64 a, .pointer (some ⟨b2, 0, none⟩), undef, undef, .slice none 0 0, .pointer (some ⟨pb369, 0, none⟩), .slice A0_8 n0_8 c0_8, .int .i64 ((i : Nat) : Int), .pointer (some ⟨b398, 0, none⟩), (U380 11), (U380 12), (U380 13), (U380 14), (U380 15), (U380 16), (U380 17), (U380 18), .slice A2 n2 c2, .int .i64 ((n2 : Nat) : Int), .int .i64 ((i + 1 : Nat) : Int), .bool true, (U414 23), (U414 24), (U414 25), (U436 26), (U436 27), (U436 28), (U436 29), (U436 30), (U436 31), (U436 32), (U436 33), (U436 34), (U436 35), (U436 36), (U436 37), (U436 38), (U436 39), (U436 40), .bool false, (U0 42), (U0 43), (U0 44), (U0 45), U439 46, undef]) (by kernel_rfl) (fun U439 => ?_)
        exact h35 _ _ _ (by omega : (n2 - (i + 1)) < _) ⟨i + 1, A0_8, n0_8, c0_8, (fun iU9 => [.agg #[.int .i64 m, .slice A n c], .slice A2 n2 c2, .int .i64 a, .pointer (some ⟨b2, 0, none⟩), undef, undef, .slice none 0 0, .pointer (some ⟨pb369, 0, none⟩), .slice A0_8 n0_8 c0_8, .int .i64 ((i : Nat) : Int), .pointer (some ⟨b398, 0, none⟩), (U380 11), (U380 12), (U380 13), (U380 14), (U380 15), (U380 16), (U380 17), (U380 18), .slice A2 n2 c2, .int .i64 ((n2 : Nat) : Int), .int .i64 ((i + 1 : Nat) : Int), .bool true, (U414 23), (U414 24), (U414 25), (U436 26), (U436 27), (U436 28), (U436 29), (U436 30), (U436 31), (U436 32), (U436 33), (U436 34), (U436 35), (U436 36), (U436 37), (U436 38), (U436 39), (U436 40), .bool false, (U0 42), (U0 43), (U0 44), (U0 45), (U439 46), undef].getD iU9 undef), (by kernel_rfl), rfl, (by omega), (by omega), x6, (by rw [aroundI_no hx389 (by have h9 := wet_eqI (b := x388.node) hx422 (by omega); have h8 := wet_eqI (b := 9 + findL ps x388.pipe) hx432 (by omega); rw [← h9, ← h8]; exact q435)]; exact ho428), nb0_8_b2, rd438, sp0_7_8, c437⟩
      · refine W.sq (v := .bool true) rfl (r_neqB (m := x421) (n := x431) rfl (by kernel_rfl) (by kernel_rfl) (by kernel_rfl) (by rw [(beq_eq_false_iff_ne.2 q435)]; rfl)) (by kernel_rfl) rfl rfl ?_
        refine W.sch_endU (fun U440 => [.agg #[.int .i64 m, .slice A n c], .slice A2 n2 c2, .int .i64 a, .pointer (some ⟨b2, 0, none⟩), undef, undef, .slice none 0 0, .pointer (some ⟨pb369, 0, none⟩), .slice A0_8 n0_8 c0_8, .int .i64 ((i : Nat) : Int), .pointer (some ⟨b398, 0, none⟩), (U380 11), (U380 12), (U380 13), (U380 14), (U380 15), (U380 16), (U380 17), (U380 18), .slice A2 n2 c2, .int .i64 ((n2 : Nat) : Int), .int .i64 ((i : Nat) : Int), .bool true, (U414 23), (U414 24), (U414 25), U440 26, U440 27, U440 28, U440 29, U440 30, U440 31, U440 32, U440 33, U440 34, U440 35, U440 36, U440 37, U440 38, U440 39, U440 40, .bool true, (U0 42), (U0 43), (U0 44), (U0 45), (U0 46), undef]) (by kernel_rfl) (fun U440 => ?_)
        have x6 := SG.blk s427 x6 (by simp)
        have x411 := SG.blk s427 x411 (by simp)
        have c441 := (SG.belowR c415 s427 (fun kq e => by cases e))
        have rd442 := Rd.kept rd416 (SG.below s427)
        refine h40 _ _ ?_
        refine wp_cond_true (by kernel_rfl) ?_
        refine W.region_plain (row := (Value.ownBlock (.slice A0_8 n0_8 c0_8))) [(0, false), (1, false), (2, true), (3, true), (4, false)] (by kernel_rfl) ?_
        have s443 := SG.self w426 (Value.ownBlock (.slice A0_8 n0_8 c0_8))
        refine W.sq (v := .slice A0_8 n0_8 c0_8) rfl (r_move rfl (by kernel_rfl)) (by kernel_rfl) rfl rfl ?_
        refine W.sq (v := .int .i64 ((i : Nat) : Int)) rfl (r_move rfl (by kernel_rfl)) (by kernel_rfl) rfl rfl ?_
        refine W.sn (fun b => .slice (some ⟨b, 0, none⟩) 1 1) #[.int .i64 ((i : Nat) : Int)] 3 s443 rfl (by kernel_rfl) rfl (fun _ => by kernel_rfl) (fun b444 w445 hb446 k447 x448 s449 => ?_)
        have lo450 : w.heap.size ≤ b444 := by have := ((SG.belowR c441 s443 (fun kq e => (World.ownsRow.lt ho428 kq e).1))).size; omega
        have sp451 : Sp (some ⟨pb369, 0, none⟩) 19 (some b444) := sp_new rd442 (by have := World.grownBy.size s443; have := hb446; omega)
        have ne452 : b2 ≠ b444 := by have := blk_lt x6; have := World.grownBy.size s443; omega
        have ne453 : b398 ≠ b444 := by have := blk_lt x411; have := World.grownBy.size s443; omega
        have nb454 : Nb b444 (.slice A0_8 n0_8 c0_8) := nb_hi ho428 (Nat.le_of_eq hb446)
        have ho455 := own_kept ho428 k447
        refine W.sap (e := 3) (size := 1) (base := w.heap.size) (m := 1) (v := .slice A0_8 n0_8 c0_8) (c := 1) s449 rfl rfl rfl rfl (by kernel_rfl) (by kernel_rfl) (by kernel_rfl) ho455 x448 (by kernel_rfl) (by kernel_rfl) (by omega) (by omega) (by have := ((SG.belowR c441 s449 (fun kq e => (World.ownsRow.lt ho428 kq e).1))).size; omega) (.inl rfl) (fun g456 cap457 w458 ho459 hg460 hat461 hlt462 s463 => ?_)
        have nb464 : Nb b2 (.slice (some ⟨g456, 0, none⟩) (n0_8 + 1) cap457) := nb_app nb0_8_b2 (Nat.lt_of_lt_of_le (blk_lt x6) (World.grownBy.size s449)) hat461
        have nb465 : Nb b398 (.slice (some ⟨g456, 0, none⟩) (n0_8 + 1) cap457) := nb_app nb407 (Nat.lt_of_lt_of_le (blk_lt x411) (World.grownBy.size s449)) hat461
        have nb466 : Nb b444 (.slice (some ⟨g456, 0, none⟩) (n0_8 + 1) cap457) := nb_app nb454 (blk_lt x448) hat461
        have x448 := (hg460.block _ (blk_lt x448) nb454).trans x448
        have ho459 := own_snoc ho459
        have sp467 := sp_app (v' := .slice (some ⟨g456, 0, none⟩) (n0_8 + 1) cap457) sp0_7_8 rd442 (World.grownBy.size s449) (hat3 (v := .slice A0_8 n0_8 c0_8) hat461)
        refine W.sq (v := .slice (some ⟨g456, 0, none⟩) (n0_8 + 1) cap457) rfl (r_assign rfl (by kernel_rfl)) (by kernel_rfl) rfl rfl ?_
        refine W.sch_endU (fun U468 => [.agg #[.int .i64 m, .slice A n c], .slice A2 n2 c2, .int .i64 a, .pointer (some ⟨b2, 0, none⟩), undef, undef, .slice none 0 0, .pointer (some ⟨pb369, 0, none⟩), .slice (some ⟨g456, 0, none⟩) (n0_8 + 1) cap457, .int .i64 ((i : Nat) : Int), .pointer (some ⟨b398, 0, none⟩), (U380 11), (U380 12), (U380 13), (U380 14), (U380 15), (U380 16), (U380 17), (U380 18), .slice A2 n2 c2, .int .i64 ((n2 : Nat) : Int), .int .i64 ((i : Nat) : Int), .bool true, (U414 23), (U414 24), (U414 25), (U440 26), (U440 27), (U440 28), (U440 29), (U440 30), (U440 31), (U440 32), (U440 33), (U440 34), (U440 35), (U440 36), (U440 37), (U440 38), (U440 39), (U440 40), .bool true, U468 42, U468 43, U468 44, U468 45, (U0 46), undef]) (by kernel_rfl) (fun U468 => ?_)
        have x6 := SG.blk s463 x6 nb0_8_b2
        have x411 := SG.blk s463 x411 nb407
        have c469 := (SG.belowR c441 s463 (fun kq e => (World.ownsRow.lt ho428 kq e).1))
        have rd470 := rd_sep rd442 s463 sp0_7_8
        refine h38 _ _ ?_
        refine W.region_quiet [(0, false), (1, false)] (by kernel_rfl) ?_
        refine W.sq (v := .int .i64 ((i + 1 : Nat) : Int)) rfl (r_add (m := ((i : Nat) : Int)) (n := 1) (z := ((i + 1 : Nat) : Int)) rfl (by kernel_rfl) (by kernel_rfl) (by omega) (by omega)) (by kernel_rfl) rfl rfl ?_
        refine W.sq (v := .int .i64 ((i + 1 : Nat) : Int)) rfl (r_move rfl (by kernel_rfl)) (by kernel_rfl) rfl rfl ?_
        refine W.sch_endU (fun U471 => [.agg #[.int .i64 m, .slice A n c], .slice A2 n2 c2, .int .i64 a, .pointer (some ⟨b2, 0, none⟩), undef, undef, .slice none 0 0, .pointer (some ⟨pb369, 0, none⟩), .slice (some ⟨g456, 0, none⟩) (n0_8 + 1) cap457, .int .i64 ((i : Nat) : Int), .pointer (some ⟨b398, 0, none⟩), (U380 11), (U380 12), (U380 13), (U380 14), (U380 15), (U380 16), (U380 17), (U380 18), .slice A2 n2 c2, .int .i64 ((n2 : Nat) : Int), .int .i64 ((i + 1 : Nat) : Int), .bool true, (U414 23), (U414 24), (U414 25), (U440 26), (U440 27), (U440 28), (U440 29), (U440 30), (U440 31), (U440 32), (U440 33), (U440 34), (U440 35), (U440 36), (U440 37), (U440 38), (U440 39), (U440 40), .bool true, (U468 42), (U468 43), (U468 44), (U468 45), U471 46, undef]) (by kernel_rfl) (fun U471 => ?_)
        exact h35 _ _ _ (by omega : (n2 - (i + 1)) < _) ⟨i + 1, (some ⟨g456, 0, none⟩), (n0_8 + 1), cap457, (fun iU9 => [.agg #[.int .i64 m, .slice A n c], .slice A2 n2 c2, .int .i64 a, .pointer (some ⟨b2, 0, none⟩), undef, undef, .slice none 0 0, .pointer (some ⟨pb369, 0, none⟩), .slice (some ⟨g456, 0, none⟩) (n0_8 + 1) cap457, .int .i64 ((i : Nat) : Int), .pointer (some ⟨b398, 0, none⟩), (U380 11), (U380 12), (U380 13), (U380 14), (U380 15), (U380 16), (U380 17), (U380 18), .slice A2 n2 c2, .int .i64 ((n2 : Nat) : Int), .int .i64 ((i + 1 : Nat) : Int), .bool true, (U414 23), (U414 24), (U414 25), (U440 26), (U440 27), (U440 28), (U440 29), (U440 30), (U440 31), (U440 32), (U440 33), (U440 34), (U440 35), (U440 36), (U440 37), (U440 38), (U440 39), (U440 40), .bool true, (U468 42), (U468 43), (U468 44), (U468 45), (U471 46), undef].getD iU9 undef), (by kernel_rfl), rfl, (by omega), (by omega), x6, (by rw [aroundI_yes hx389 (by have h9 := wet_eqI (b := x388.node) hx422 (by omega); have h8 := wet_eqI (b := 9 + findL ps x388.pipe) hx432 (by omega); rw [← h9, ← h8]; exact q435)]; exact ho459), nb464, rd470, sp467, c469⟩
    · refine W.sq (v := .bool false) rfl (r_lss (m := ((i : Nat) : Int)) (n := ((n2 : Nat) : Int)) rfl (by kernel_rfl) (by kernel_rfl) (decide_eq_false q386)) (by kernel_rfl) rfl rfl ?_
      refine W.sch_end (l' := [.agg #[.int .i64 m, .slice A n c], .slice A2 n2 c2, .int .i64 a, .pointer (some ⟨b2, 0, none⟩), undef, undef, .slice none 0 0, .pointer (some ⟨pb369, 0, none⟩), .slice A0_8 n0_8 c0_8, (U0 9), (U0 10), (U380 11), (U380 12), (U380 13), (U380 14), (U380 15), (U380 16), (U380 17), (U380 18), .slice A2 n2 c2, .int .i64 ((n2 : Nat) : Int), .int .i64 ((i : Nat) : Int), .bool false, (U0 23), (U0 24), (U0 25), (U0 26), (U0 27), (U0 28), (U0 29), (U0 30), (U0 31), (U0 32), (U0 33), (U0 34), (U0 35), (U0 36), (U0 37), (U0 38), (U0 39), (U0 40), (U0 41), (U0 42), (U0 43), (U0 44), (U0 45), (U0 46), undef]) (by kernel_rfl) ?_
      refine h36 _ _ ?_
      refine wp_seq_k (fun K41 h41 => ?_)
      refine wp_cond_false (by kernel_rfl) ?_
      refine wp_exit ?_
      refine h33 _ _ ?_
      refine wp_seq_k (fun K42 h42 => ?_)
      refine W.region_quiet [(0, false), (1, false)] (by kernel_rfl) ?_
      refine W.sq (v := .slice A0_8 n0_8 c0_8) rfl (r_move rfl (by kernel_rfl)) (by kernel_rfl) rfl rfl ?_
      refine W.sq (v := .slice A0_8 n0_8 c0_8) rfl (r_assign rfl (by kernel_rfl)) (by kernel_rfl) rfl rfl ?_
      refine W.sch_endU (fun U472 => [.agg #[.int .i64 m, .slice A n c], .slice A2 n2 c2, .int .i64 a, .pointer (some ⟨b2, 0, none⟩), undef, undef, .slice A0_8 n0_8 c0_8, .pointer (some ⟨pb369, 0, none⟩), .slice A0_8 n0_8 c0_8, (U0 9), (U0 10), (U380 11), (U380 12), (U380 13), (U380 14), (U380 15), (U380 16), (U380 17), (U380 18), .slice A2 n2 c2, .int .i64 ((n2 : Nat) : Int), .int .i64 ((i : Nat) : Int), .bool false, (U0 23), (U0 24), (U0 25), (U0 26), (U0 27), (U0 28), (U0 29), (U0 30), (U0 31), (U0 32), (U0 33), (U0 34), (U0 35), (U0 36), (U0 37), (U0 38), (U0 39), (U0 40), (U0 41), (U0 42), (U0 43), (U0 44), (U0 45), (U0 46), U472 47]) (by kernel_rfl) (fun U472 => ?_)
      refine h42 _ _ ?_
      refine wp_ret ?_
      try simp only [Exit.then]
      refine ret1 (v := .slice A0_8 n0_8 c0_8) rfl (by kernel_rfl) ?_
      exact ⟨_, _, _, rfl, (by rw [show vs.length = i by omega]; exact ho0_8), c385⟩

set_option maxRecDepth 100000 in
set_option maxHeartbeats 1000000 in
theorem l4Around_any (m : Int) (A : Option Addr) (n c : Nat) (ps : List Pp) (A2 : Option Addr) (n2 c2 : Nat) (vs : List Vv) (a : Int) (A3 : Option Addr) (n3 c3 : Nat) (A4 : Option Addr) (n4 c4 : Nat) (w : World) (ha : Rd w 4 A n (pipesV ps)) (hb : Rd w 4 A2 n2 (valvesV vs)) (hn : n ≤ 1048576) (hn2 : n2 ≤ 1048576) (hv9 : GoodVal m ps vs) (hfa : 0 ≤ findL ps a) (hy : Rd w 1 A3 n3 (intsV (nodesL (linked ps (openQ vs false)) m.toNat (9 + findL ps a) true))) (hx : Rd w 1 A4 n4 (intsV (idxL (linked ps (openQ vs false)) ps.length (9 + findL ps a) true))) :
    Calls Try.prog 74 #[.agg #[.int .i64 m, .slice A n c], .slice A2 n2 c2, .slice A3 n3 c3, .slice A4 n4 c4] w fun e w' => ∃ A' n' c', e = .returned (.slice A' n' c') ∧ w'.ownsRow w.heap.size 3 1 (.slice A' n' c') n' (intsV (aroundI ps vs (9 + findL ps a) vs.length)) ∧ Below w.heap.size w w' := by
  have hl := rd_pipes_len ha
  have hl2 := rd_valves_len hb
  have hg := hv9.net
  have hgl := hg.lo
  have hgh := hg.hi
  have hp := hg.pipesIn
  have hlen10 := hg.len
  have hu := hv9.uniq
  have hvl := hv9.len
  have hfl := findL_lt ps a
  have hly := rd_ints_len hy
  have hlx := rd_ints_len hx
  have := nodesL_len (linked ps (openQ vs false)) m.toNat (9 + findL ps a) true
  have := idxL_len (linked ps (openQ vs false)) ps.length (9 + findL ps a) true
  go_enter Try.func74, Try.ntmps74
  refine wp_seq_k (fun K1 h1 => ?_)
  refine W.region_plain (row := none) [(0, true), (1, false)] (by kernel_rfl) ?_
  have s1 := SG.self w none
  refine W.sn (fun b => .pointer (some ⟨b, 0, none⟩)) #[.int .i64 m, .slice A n c] 31 s1 rfl (by kernel_rfl) rfl (fun _ => by kernel_rfl) (fun b2 w3 hb4 k5 x6 s7 => ?_)
  have lo8 : w.heap.size ≤ b2 := by have := ((SG.belowR (Below.refl _ _) s1 (fun kq e => by cases e))).size; omega
  refine W.sq (v := .slice none 0 0) rfl (r_assign rfl (by kernel_rfl)) (by kernel_rfl) rfl rfl ?_
  refine W.sch_end (l' := [.agg #[.int .i64 m, .slice A n c], .slice A2 n2 c2, .slice A3 n3 c3, .slice A4 n4 c4, .pointer (some ⟨b2, 0, none⟩), undef, undef, undef, .slice none 0 0, undef, undef, undef, undef, undef, undef, undef, undef, undef, undef, undef, undef, undef, undef, undef, undef, undef, undef, undef, undef, undef, undef, undef, undef, undef, undef, undef, undef, undef, undef, undef]) (by kernel_rfl) ?_
  have c9 := (SG.belowR (Below.refl _ _) s7 (fun kq e => by cases e))
  refine h1 _ _ ?_
  refine wp_seq_k (fun K2 h2 => ?_)
  refine W.region_plain (row := none) [(0, true), (1, false)] (by kernel_rfl) ?_
  have s10 := SG.self w3 none
  refine W.sn (fun b => .slice (some ⟨b, 0, none⟩) 0 0) #[] 3 s10 rfl (by kernel_rfl) rfl (fun _ => by kernel_rfl) (fun b11 w12 hb13 k14 x15 s16 => ?_)
  have lo17 : w.heap.size ≤ b11 := by have := ((SG.belowR c9 s10 (fun kq e => by cases e))).size; omega
  have ne18 : b2 ≠ b11 := by have := blk_lt x6; have := World.grownBy.size s10; omega
  refine W.sq (v := .slice (some ⟨b11, 0, none⟩) 0 0) rfl (r_assign rfl (by kernel_rfl)) (by kernel_rfl) rfl rfl ?_
  refine W.sch_endU (fun U19 => [.agg #[.int .i64 m, .slice A n c], .slice A2 n2 c2, .slice A3 n3 c3, .slice A4 n4 c4, .pointer (some ⟨b2, 0, none⟩), undef, undef, undef, .slice none 0 0, .slice (some ⟨b11, 0, none⟩) 0 0, undef, U19 11, undef, undef, undef, undef, undef, undef, undef, undef, undef, undef, undef, undef, undef, undef, undef, undef, undef, undef, undef, undef, undef, undef, undef, undef, undef, undef, undef, undef]) (by kernel_rfl) (fun U19 => ?_)
  have x6 := SG.blk s16 x6 (by simp)
  have c20 := (SG.belowR c9 s16 (fun kq e => by cases e))
  refine h2 _ _ ?_
  refine wp_seq_k (fun K3 h3 => ?_)
  refine wp_seq_k (fun K4 h4 => ?_)
  refine W.region_quiet [(0, false)] (by kernel_rfl) ?_
  refine W.sq (v := .int .i64 0) rfl (r_assign rfl (by kernel_rfl)) (by kernel_rfl) rfl rfl ?_
  refine W.sch_end (l' := [.agg #[.int .i64 m, .slice A n c], .slice A2 n2 c2, .slice A3 n3 c3, .slice A4 n4 c4, .pointer (some ⟨b2, 0, none⟩), undef, undef, undef, .slice none 0 0, .slice (some ⟨b11, 0, none⟩) 0 0, .int .i64 0, (U19 11), undef, undef, undef, undef, undef, undef, undef, undef, undef, undef, undef, undef, undef, undef, undef, undef, undef, undef, undef, undef, undef, undef, undef, undef, undef, undef, undef, undef]) (by kernel_rfl) ?_
  refine h4 _ _ ?_
  refine wp_block ?_
  have ho21 := own_empty (base := w.heap.size) (size := 1) x15 lo17
  replace ho21 : World.ownsRow _ _ _ _ _ _ (intsV []) := ho21
  have nb22 : Nb b2 (.slice (some ⟨b11, 0, none⟩) 0 0) := nb_new (by have := ne18; omega)
  refine loopK (fun am0 aa0 wl0 => ∃ (i : Nat) (A0_9 : Option Addr) (n0_9 : Nat) (c0_9 : Nat) (U0 : Nat → Value), aa0 = ⟨[.agg #[.int .i64 m, .slice A n c], .slice A2 n2 c2, .slice A3 n3 c3, .slice A4 n4 c4, .pointer (some ⟨b2, 0, none⟩), undef, undef, undef, .slice none 0 0, .slice A0_9 n0_9 c0_9, .int .i64 ((i : Nat) : Int), (U19 11), U0 12, U0 13, U0 14, U0 15, U0 16, U0 17, U0 18, U0 19, U0 20, U0 21, U0 22, U0 23, U0 24, U0 25, U0 26, U0 27, U0 28, U0 29, U0 30, U0 31, U0 32, U0 33, U0 34, U0 35, U0 36, U0 37, U0 38, undef].toArray, []⟩ ∧ (am0 = n2 - i) ∧ (i ≤ n2) ∧ (n0_9 ≤ i) ∧ (wl0.heap[b2]? = some (.cells #[.int .i64 m, .slice A n c] 31 (0, 0))) ∧ (wl0.ownsRow w.heap.size 3 1 (.slice A0_9 n0_9 c0_9) n0_9 (intsV (aroundI ps vs (9 + findL ps a) i))) ∧ (Nb b2 (.slice A0_9 n0_9 c0_9)) ∧ (Below w.heap.size w wl0)) (n2 - 0) ?_ ?_
  · exact ⟨0, (some ⟨b11, 0, none⟩), 0, 0, (fun iU9 => [.agg #[.int .i64 m, .slice A n c], .slice A2 n2 c2, .slice A3 n3 c3, .slice A4 n4 c4, .pointer (some ⟨b2, 0, none⟩), undef, undef, undef, .slice none 0 0, .slice (some ⟨b11, 0, none⟩) 0 0, .int .i64 0, (U19 11), undef, undef, undef, undef, undef, undef, undef, undef, undef, undef, undef, undef, undef, undef, undef, undef, undef, undef, undef, undef, undef, undef, undef, undef, undef, undef, undef, undef].getD iU9 undef), (by kernel_rfl), rfl, (Nat.zero_le _), (Nat.zero_le _), x6, ho21, nb22, c20⟩
  rintro am0 aa0 wl0 K5 h5 ⟨i, A0_9, n0_9, c0_9, U0, rfl, rfl, hi, hb9, x6, ho0_9, nb0_9_b2, c23⟩
  refine wp_seq_k (fun K6 h6 => ?_)
  refine wp_seq_k (fun K7 h7 => ?_)
  refine W.region_quiet [(0, false), (1, false), (2, false), (3, false)] (by kernel_rfl) ?_
  refine W.sq (v := .int .i64 ((i : Nat) : Int)) rfl (r_move rfl (by kernel_rfl)) (by kernel_rfl) rfl rfl ?_
  refine W.sq (v := .slice A2 n2 c2) rfl (r_move rfl (by kernel_rfl)) (by kernel_rfl) rfl rfl ?_
  refine W.sq (v := .int .i64 ((n2 : Nat) : Int)) rfl (r_len (A := A2) (n := n2) (c := c2) rfl (by kernel_rfl) (by kernel_rfl)) (by kernel_rfl) rfl rfl ?_
  by_cases q24 : (((i : Nat) : Int) : Int) < (((n2 : Nat) : Int) : Int)
  · refine W.sq (v := .bool true) rfl (r_lss (m := ((i : Nat) : Int)) (n := ((n2 : Nat) : Int)) rfl (by kernel_rfl) (by kernel_rfl) (decide_eq_true q24)) (by kernel_rfl) rfl rfl ?_
    refine W.sch_endU (fun U25 => [.agg #[.int .i64 m, .slice A n c], .slice A2 n2 c2, .slice A3 n3 c3, .slice A4 n4 c4, .pointer (some ⟨b2, 0, none⟩), undef, undef, undef, .slice none 0 0, .slice A0_9 n0_9 c0_9, .int .i64 ((i : Nat) : Int), (U19 11), U25 12, U25 13, U25 14, .bool true, (U0 16), (U0 17), (U0 18), (U0 19), (U0 20), (U0 21), (U0 22), (U0 23), (U0 24), (U0 25), (U0 26), (U0 27), (U0 28), (U0 29), (U0 30), (U0 31), (U0 32), (U0 33), (U0 34), (U0 35), (U0 36), (U0 37), (U0 38), undef]) (by kernel_rfl) (fun U25 => ?_)
    refine h7 _ _ ?_
    refine wp_cond_true (by kernel_rfl) ?_
    refine wp_skip ?_
    refine h6 _ _ ?_
    refine wp_seq_k (fun K8 h8 => ?_)
    refine wp_block ?_
    refine wp_seq_k (fun K9 h9 => ?_)
    refine W.region_sch (row := none) (Sch.of [(0, false), (1, false), (2, false), (3, false), (4, false), (5, false), (7, false), (8, false), (9, false), (10, false), (11, false), (12, false), (13, false), (6, true), (14, true), (15, true), (16, false)]) (by kernel_rfl) (by kernel_rfl) (fun _ d _ _ _ h => by cases d <;> exact h) (by kernel_rfl) (fun w26 e27 s28 => ?_)
    have ho29 := own_heap ho0_9 e27
    refine W.sq (v := .slice A3 n3 c3) rfl (r_move rfl (by kernel_rfl)) (by kernel_rfl) rfl rfl ?_
    refine W.sq (v := .slice A2 n2 c2) rfl (r_move rfl (by kernel_rfl)) (by kernel_rfl) rfl rfl ?_
    refine W.sq (v := .int .i64 ((i : Nat) : Int)) rfl (r_move rfl (by kernel_rfl)) (by kernel_rfl) rfl rfl ?_
    obtain ⟨x30, hx31⟩ := get_of (zs := vs) (k := i) (by have := hl2; omega)
    obtain ⟨b32, o33, hA34, hb35, hc36, hc37, hc38, hc39⟩ := Rd.elValve hb hx31
    refine W.sq (v := .pointer (some ⟨b32, o33 + i * 4, none⟩)) rfl (r_idx (n := n2) (c := c2) (k := i) rfl (by kernel_rfl) hA34 (by kernel_rfl) (by kernel_rfl) (by have := hl2; omega)) (by kernel_rfl) rfl rfl ?_
    refine W.sq (v := .pointer (some ⟨b32, o33 + i * 4 + 2, none⟩)) rfl (r_field (k := 2) rfl (by kernel_rfl) (by kernel_rfl)) (by kernel_rfl) rfl rfl ?_
    refine W.sq (v := .int .i64 x30.node) rfl (r_load rfl (by kernel_rfl) (by kernel_rfl) (sgS (later c23 hc38) (by simp))) (by kernel_rfl) rfl rfl ?_
    refine W.sq (v := .slice A4 n4 c4) rfl (r_move rfl (by kernel_rfl)) (by kernel_rfl) rfl rfl ?_
    refine W.sq (v := .agg #[.int .i64 m, .slice A n c]) rfl (r_load2 rfl (by kernel_rfl) (by kernel_rfl) (by kernel_rfl) (sgS (blk_cell (j := 0) x6 (by kernel_rfl)) (by simp)) (sgS (blk_cell (j := 1) x6 (by kernel_rfl)) (by simp))) (by kernel_rfl) rfl rfl ?_
    refine W.sq (v := .slice A2 n2 c2) rfl (r_move rfl (by kernel_rfl)) (by kernel_rfl) rfl rfl ?_
    refine W.sq (v := .int .i64 ((i : Nat) : Int)) rfl (r_move rfl (by kernel_rfl)) (by kernel_rfl) rfl rfl ?_
    refine W.sq (v := .pointer (some ⟨b32, o33 + i * 4, none⟩)) rfl (r_idx (n := n2) (c := c2) (k := i) rfl (by kernel_rfl) hA34 (by kernel_rfl) (by kernel_rfl) (by have := hl2; omega)) (by kernel_rfl) rfl rfl ?_
    refine W.sq (v := .pointer (some ⟨b32, o33 + i * 4 + 1, none⟩)) rfl (r_field (k := 1) rfl (by kernel_rfl) (by kernel_rfl)) (by kernel_rfl) rfl rfl ?_
    refine W.sq (v := .int .i64 x30.pipe) rfl (r_load rfl (by kernel_rfl) (by kernel_rfl) (sgS (later c23 hc37) (by simp))) (by kernel_rfl) rfl rfl ?_
    obtain ⟨kz, pz, ekz, hkz, hpz, hnz⟩ := hv9.place x30 (List.mem_of_getElem? hx31)
    have hgz := hg.at hpz
    refine W.sc (vs := [.slice A3 n3 c3, .int .i64 x30.node]) rfl rfl (by kernel_rfl) (by kernel_rfl) (by kernel_rfl) rfl (l1Has_any A3 n3 c3 (nodesL (linked ps (openQ vs false)) m.toNat (9 + findL ps a) true) x30.node _ (Rd.kept hy (SG.belowR c23 s28 (fun kq e => by cases e))) (by omega)) ?_
    rintro e w41 ⟨rfl, b40⟩
    have s42 := SG.of_below s28 b40
    refine ⟨_, rfl, s42, ?_⟩
    have ho43 := own_kept ho29 b40
    refine W.sc (vs := [.agg #[.int .i64 m, .slice A n c], .int .i64 x30.pipe]) rfl rfl (by kernel_rfl) (by kernel_rfl) (by kernel_rfl) rfl (l2Find_any m A n c ps x30.pipe _ (Rd.kept ha (SG.belowR c23 s42 (fun kq e => by cases e))) (by omega)) ?_
    rintro e w45 ⟨rfl, b44⟩
    have s46 := SG.of_below s42 b44
    refine ⟨_, rfl, s46, ?_⟩
    have ho47 := own_kept ho43 b44
    refine W.sc (vs := [.slice A4 n4 c4, .int .i64 (findL ps x30.pipe)]) rfl rfl (by kernel_rfl) (by kernel_rfl) (by kernel_rfl) rfl (l1Has_any A4 n4 c4 (idxL (linked ps (openQ vs false)) ps.length (9 + findL ps a) true) (findL ps x30.pipe) _ (Rd.kept hx (SG.belowR c23 s46 (fun kq e => by cases e))) (by omega)) ?_
    rintro e w49 ⟨rfl, b48⟩
    have s50 := SG.of_below s46 b48
    refine ⟨_, rfl, s50, ?_⟩
    have ho51 := own_kept ho47 b48
    by_cases q52 : ((nodesL (linked ps (openQ vs false)) m.toNat (9 + findL ps a) true).contains x30.node) = ((idxL (linked ps (openQ vs false)) ps.length (9 + findL ps a) true).contains (findL ps x30.pipe))
    · refine W.sq (v := .bool false) rfl (r_neqB (m := ((nodesL (linked ps (openQ vs false)) m.toNat (9 + findL ps a) true).contains x30.node)) (n := ((idxL (linked ps (openQ vs false)) ps.length (9 + findL ps a) true).contains (findL ps x30.pipe))) rfl (by kernel_rfl) (by kernel_rfl) (by kernel_rfl) (by rw [(beq_iff_eq.2 q52)]; rfl)) (by kernel_rfl) rfl rfl ?_
      refine W.sch_endU (fun U53 => [.agg #[.int .i64 m, .slice A n c], .slice A2 n2 c2, .slice A3 n3 c3, .slice A4 n4 c4, .pointer (some ⟨b2, 0, none⟩), undef, undef, undef, .slice none 0 0, .slice A0_9 n0_9 c0_9, .int .i64 ((i : Nat) : Int), (U19 11), (U25 12), (U25 13), (U25 14), .bool true, (U0 16), (U0 17), U53 18, U53 19, U53 20, U53 21, U53 22, U53 23, U53 24, U53 25, U53 26, U53 27, U53 28, U53 29, U53 30, U53 31, U53 32, U53 33, .bool false, (U0 35), (U0 36), (U0 37), (U0 38), undef]) (by kernel_rfl) (fun U53 => ?_)
      have x6 := SG.blk s50 x6 (by simp)
      have c54 := (SG.belowR c23 s50 (fun kq e => by cases e))
      refine h9 _ _ ?_
      refine wp_cond_false (by kernel_rfl) ?_
      refine wp_skip ?_
      refine h8 _ _ ?_
      refine W.region_quiet [(0, false), (1, false), (2, false)] (by kernel_rfl) ?_
      refine W.sq (v := .int .i64 ((i : Nat) : Int)) rfl (r_move rfl (by kernel_rfl)) (by kernel_rfl) rfl rfl ?_
      refine W.sq (v := .int .i64 ((i + 1 : Nat) : Int)) rfl (r_add (m := ((i : Nat) : Int)) (n := 1) (z := ((i + 1 : Nat) : Int)) rfl (by kernel_rfl) (by kernel_rfl) (by omega) (by omega)) (by kernel_rfl) rfl rfl ?_
      refine W.sq (v := .int .i64 ((i + 1 : Nat) : Int)) rfl (r_assign rfl (by kernel_rfl)) (by kernel_rfl) rfl rfl ?_
      refine W.sch_endU (fun U55 => [.agg #[.int .i64 m, .slice A n c], .slice A2 n2 c2, .slice A3 n3 c3, .slice A4 n4 c4, .pointer (some ⟨b2, 0, none⟩), undef, undef, undef, .slice none 0 0, .slice A0_9 n0_9 c0_9, .int .i64 ((i + 1 : Nat) : Int), (U19 11), (U25 12), (U25 13), (U25 14), .bool true, U55 16, U55 17, (U53 18), (U53 19), (U53 20), (U53 21), (U53 22), (U53 23), (U53 24), (U53 25), (U53 26), (U53 27), (U53 28), (U53 29), (U53 30), (U53 31), (U53 32), (U53 33), .bool false, (U0 35), (U0 36), (U0 37), (U0 38), undef]) (by kernel_rfl) (fun U55 => ?_)
      exact h5 _ _ _ (by omega : (n2 - (i + 1)) < _) ⟨i + 1, A0_9, n0_9, c0_9, (fun iU9 => [.agg #[.int .i64 m, .slice A n c], .slice A2 n2 c2, .slice A3 n3 c3, .slice A4 n4 c4, .pointer (some ⟨b2, 0, none⟩), undef, undef, undef, .slice none 0 0, .slice A0_9 n0_9 c0_9, .int .i64 ((i + 1 : Nat) : Int), (U19 11), (U25 12), (U25 13), (U25 14), .bool true, (U55 16), (U55 17), (U53 18), (U53 19), (U53 20), (U53 21), (U53 22), (U53 23), (U53 24), (U53 25), (U53 26), (U53 27), (U53 28), (U53 29), (U53 30), (U53 31), (U53 32), (U53 33), .bool false, (U0 35), (U0 36), (U0 37), (U0 38), undef].getD iU9 undef), (by kernel_rfl), rfl, (by omega), (by omega), x6, (by rw [aroundI_no hx31 (by have h9 := nodesL_has (E := (linked ps (openQ vs false))) (m := m.toNat) (a := (9 + findL ps a)) (b := x30.node) (by omega); have h8 := idxL_has (E := (linked ps (openQ vs false))) (n := ps.length) (a := (9 + findL ps a)) (b := findL ps x30.pipe) (by omega); rw [← h9, ← h8]; exact q52)]; exact ho51), nb0_9_b2, c54⟩
    · refine W.sq (v := .bool true) rfl (r_neqB (m := ((nodesL (linked ps (openQ vs false)) m.toNat (9 + findL ps a) true).contains x30.node)) (n := ((idxL (linked ps (openQ vs false)) ps.length (9 + findL ps a) true).contains (findL ps x30.pipe))) rfl (by kernel_rfl) (by kernel_rfl) (by kernel_rfl) (by rw [(beq_eq_false_iff_ne.2 q52)]; rfl)) (by kernel_rfl) rfl rfl ?_
      refine W.sch_endU (fun U56 => [.agg #[.int .i64 m, .slice A n c], .slice A2 n2 c2, .slice A3 n3 c3, .slice A4 n4 c4, .pointer (some ⟨b2, 0, none⟩), undef, undef, undef, .slice none 0 0, .slice A0_9 n0_9 c0_9, .int .i64 ((i : Nat) : Int), (U19 11), (U25 12), (U25 13), (U25 14), .bool true, (U0 16), (U0 17), U56 18, U56 19, U56 20, U56 21, U56 22, U56 23, U56 24, U56 25, U56 26, U56 27, U56 28, U56 29, U56 30, U56 31, U56 32, U56 33, .bool true, (U0 35), (U0 36), (U0 37), (U0 38), undef]) (by kernel_rfl) (fun U56 => ?_)
      have x6 := SG.blk s50 x6 (by simp)
      have c57 := (SG.belowR c23 s50 (fun kq e => by cases e))
      refine h9 _ _ ?_
      refine wp_cond_true (by kernel_rfl) ?_
      refine W.region_plain (row := (Value.ownBlock (.slice A0_9 n0_9 c0_9))) [(0, false), (1, false), (2, true), (3, true), (4, false)] (by kernel_rfl) ?_
      have s58 := SG.self w49 (Value.ownBlock (.slice A0_9 n0_9 c0_9))
      refine W.sq (v := .slice A0_9 n0_9 c0_9) rfl (r_move rfl (by kernel_rfl)) (by kernel_rfl) rfl rfl ?_
      refine W.sq (v := .int .i64 ((i : Nat) : Int)) rfl (r_move rfl (by kernel_rfl)) (by kernel_rfl) rfl rfl ?_
      refine W.sn (fun b => .slice (some ⟨b, 0, none⟩) 1 1) #[.int .i64 ((i : Nat) : Int)] 3 s58 rfl (by kernel_rfl) rfl (fun _ => by kernel_rfl) (fun b59 w60 hb61 k62 x63 s64 => ?_)
      have lo65 : w.heap.size ≤ b59 := by have := ((SG.belowR c57 s58 (fun kq e => (World.ownsRow.lt ho51 kq e).1))).size; omega
      have ne66 : b2 ≠ b59 := by have := blk_lt x6; have := World.grownBy.size s58; omega
      have nb67 : Nb b59 (.slice A0_9 n0_9 c0_9) := nb_hi ho51 (Nat.le_of_eq hb61)
      have ho68 := own_kept ho51 k62
      refine W.sap (e := 3) (size := 1) (base := w.heap.size) (m := 1) (v := .slice A0_9 n0_9 c0_9) (c := 1) s64 rfl rfl rfl rfl (by kernel_rfl) (by kernel_rfl) (by kernel_rfl) ho68 x63 (by kernel_rfl) (by kernel_rfl) (by omega) (by omega) (by have := ((SG.belowR c57 s64 (fun kq e => (World.ownsRow.lt ho51 kq e).1))).size; omega) (.inl rfl) (fun g69 cap70 w71 ho72 hg73 hat74 hlt75 s76 => ?_)
      have nb77 : Nb b2 (.slice (some ⟨g69, 0, none⟩) (n0_9 + 1) cap70) := nb_app nb0_9_b2 (Nat.lt_of_lt_of_le (blk_lt x6) (World.grownBy.size s64)) hat74
      have nb78 : Nb b59 (.slice (some ⟨g69, 0, none⟩) (n0_9 + 1) cap70) := nb_app nb67 (blk_lt x63) hat74
      have x63 := (hg73.block _ (blk_lt x63) nb67).trans x63
      have ho72 := own_snoc ho72
      refine W.sq (v := .slice (some ⟨g69, 0, none⟩) (n0_9 + 1) cap70) rfl (r_assign rfl (by kernel_rfl)) (by kernel_rfl) rfl rfl ?_
      refine W.sch_endU (fun U79 => [.agg #[.int .i64 m, .slice A n c], .slice A2 n2 c2, .slice A3 n3 c3, .slice A4 n4 c4, .pointer (some ⟨b2, 0, none⟩), undef, undef, undef, .slice none 0 0, .slice (some ⟨g69, 0, none⟩) (n0_9 + 1) cap70, .int .i64 ((i : Nat) : Int), (U19 11), (U25 12), (U25 13), (U25 14), .bool true, (U0 16), (U0 17), (U56 18), (U56 19), (U56 20), (U56 21), (U56 22), (U56 23), (U56 24), (U56 25), (U56 26), (U56 27), (U56 28), (U56 29), (U56 30), (U56 31), (U56 32), (U56 33), .bool true, U79 35, U79 36, U79 37, U79 38, undef]) (by kernel_rfl) (fun U79 => ?_)
      have x6 := SG.blk s76 x6 nb0_9_b2
      have c80 := (SG.belowR c57 s76 (fun kq e => (World.ownsRow.lt ho51 kq e).1))
      refine h8 _ _ ?_
      refine W.region_quiet [(0, false), (1, false), (2, false)] (by kernel_rfl) ?_
      refine W.sq (v := .int .i64 ((i : Nat) : Int)) rfl (r_move rfl (by kernel_rfl)) (by kernel_rfl) rfl rfl ?_
      refine W.sq (v := .int .i64 ((i + 1 : Nat) : Int)) rfl (r_add (m := ((i : Nat) : Int)) (n := 1) (z := ((i + 1 : Nat) : Int)) rfl (by kernel_rfl) (by kernel_rfl) (by omega) (by omega)) (by kernel_rfl) rfl rfl ?_
      refine W.sq (v := .int .i64 ((i + 1 : Nat) : Int)) rfl (r_assign rfl (by kernel_rfl)) (by kernel_rfl) rfl rfl ?_
      refine W.sch_endU (fun U81 => [.agg #[.int .i64 m, .slice A n c], .slice A2 n2 c2, .slice A3 n3 c3, .slice A4 n4 c4, .pointer (some ⟨b2, 0, none⟩), undef, undef, undef, .slice none 0 0, .slice (some ⟨g69, 0, none⟩) (n0_9 + 1) cap70, .int .i64 ((i + 1 : Nat) : Int), (U19 11), (U25 12), (U25 13), (U25 14), .bool true, U81 16, U81 17, (U56 18), (U56 19), (U56 20), (U56 21), (U56 22), (U56 23), (U56 24), (U56 25), (U56 26), (U56 27), (U56 28), (U56 29), (U56 30), (U56 31), (U56 32), (U56 33), .bool true, (U79 35), (U79 36), (U79 37), (U79 38), undef]) (by kernel_rfl) (fun U81 => ?_)
      exact h5 _ _ _ (by omega : (n2 - (i + 1)) < _) ⟨i + 1, (some ⟨g69, 0, none⟩), (n0_9 + 1), cap70, (fun iU9 => [.agg #[.int .i64 m, .slice A n c], .slice A2 n2 c2, .slice A3 n3 c3, .slice A4 n4 c4, .pointer (some ⟨b2, 0, none⟩), undef, undef, undef, .slice none 0 0, .slice (some ⟨g69, 0, none⟩) (n0_9 + 1) cap70, .int .i64 ((i + 1 : Nat) : Int), (U19 11), (U25 12), (U25 13), (U25 14), .bool true, (U81 16), (U81 17), (U56 18), (U56 19), (U56 20), (U56 21), (U56 22), (U56 23), (U56 24), (U56 25), (U56 26), (U56 27), (U56 28), (U56 29), (U56 30), (U56 31), (U56 32), (U56 33), .bool true, (U79 35), (U79 36), (U79 37), (U79 38), undef].getD iU9 undef), (by kernel_rfl), rfl, (by omega), (by omega), x6, (by rw [aroundI_yes hx31 (by have h9 := nodesL_has (E := (linked ps (openQ vs false))) (m := m.toNat) (a := (9 + findL ps a)) (b := x30.node) (by omega); have h8 := idxL_has (E := (linked ps (openQ vs false))) (n := ps.length) (a := (9 + findL ps a)) (b := findL ps x30.pipe) (by omega); rw [← h9, ← h8]; exact q52)]; exact ho72), nb77, c80⟩
  · refine W.sq (v := .bool false) rfl (r_lss (m := ((i : Nat) : Int)) (n := ((n2 : Nat) : Int)) rfl (by kernel_rfl) (by kernel_rfl) (decide_eq_false q24)) (by kernel_rfl) rfl rfl ?_
    refine W.sch_endU (fun U82 => [.agg #[.int .i64 m, .slice A n c], .slice A2 n2 c2, .slice A3 n3 c3, .slice A4 n4 c4, .pointer (some ⟨b2, 0, none⟩), undef, undef, undef, .slice none 0 0, .slice A0_9 n0_9 c0_9, .int .i64 ((i : Nat) : Int), (U19 11), U82 12, U82 13, U82 14, .bool false, (U0 16), (U0 17), (U0 18), (U0 19), (U0 20), (U0 21), (U0 22), (U0 23), (U0 24), (U0 25), (U0 26), (U0 27), (U0 28), (U0 29), (U0 30), (U0 31), (U0 32), (U0 33), (U0 34), (U0 35), (U0 36), (U0 37), (U0 38), undef]) (by kernel_rfl) (fun U82 => ?_)
    refine h7 _ _ ?_
    refine wp_cond_false (by kernel_rfl) ?_
    refine wp_exit ?_
    refine h3 _ _ ?_
    refine wp_seq_k (fun K10 h10 => ?_)
    refine W.region_quiet [(0, false), (1, false)] (by kernel_rfl) ?_
    refine W.sq (v := .slice A0_9 n0_9 c0_9) rfl (r_move rfl (by kernel_rfl)) (by kernel_rfl) rfl rfl ?_
    refine W.sq (v := .slice A0_9 n0_9 c0_9) rfl (r_assign rfl (by kernel_rfl)) (by kernel_rfl) rfl rfl ?_
    refine W.sch_endU (fun U83 => [.agg #[.int .i64 m, .slice A n c], .slice A2 n2 c2, .slice A3 n3 c3, .slice A4 n4 c4, .pointer (some ⟨b2, 0, none⟩), undef, undef, undef, .slice A0_9 n0_9 c0_9, .slice A0_9 n0_9 c0_9, .int .i64 ((i : Nat) : Int), (U19 11), (U82 12), (U82 13), (U82 14), .bool false, (U0 16), (U0 17), (U0 18), (U0 19), (U0 20), (U0 21), (U0 22), (U0 23), (U0 24), (U0 25), (U0 26), (U0 27), (U0 28), (U0 29), (U0 30), (U0 31), (U0 32), (U0 33), (U0 34), (U0 35), (U0 36), (U0 37), (U0 38), U83 39]) (by kernel_rfl) (fun U83 => ?_)
    refine h10 _ _ ?_
    refine wp_ret ?_
    try simp only [Exit.then]
    refine ret1 (v := .slice A0_9 n0_9 c0_9) rfl (by kernel_rfl) ?_
    exact ⟨_, _, _, rfl, (by rw [show vs.length = i by omega]; exact ho0_9), c23⟩

set_option maxRecDepth 100000 in
set_option maxHeartbeats 1000000 in
theorem ValvesAround_impl (m : Int) (A : Option Addr) (n c : Nat) (ps : List Pp) (A2 : Option Addr) (n2 c2 : Nat) (vs : List Vv) (a : Int) (w : World) (ha : Rd w 4 A n (pipesV ps)) (hb : Rd w 4 A2 n2 (valvesV vs)) (hn : n ≤ 1048576) (hn2 : n2 ≤ 1048576) (hfm : Fm A n c) (hfm2 : Fm A2 n2 c2) :
    Calls Try.prog 34 #[.agg #[.int .i64 m, .slice A n c], .slice A2 n2 c2, .int .i64 a] w fun e w' => ∃ A' d, e = .returned (.tuple #[.slice A' (ValvesAround_v0 m ps vs a).length d, .bool (ValvesAround_v1 m ps vs a)]) ∧ w'.ownsRow w.heap.size 3 1 (.slice A' (ValvesAround_v0 m ps vs a).length d) (ValvesAround_v0 m ps vs a).length (intsV (ValvesAround_v0 m ps vs a)) ∧ Below w.heap.size w w' := by
  have hl := rd_pipes_len ha
  have hl2 := rd_valves_len hb
  have hfl := findL_lt ps a
  go_enter Try.func34, Try.ntmps34
  refine wp_seq_k (fun K1 h1 => ?_)
  refine W.region_plain (row := none) [(0, true), (1, false), (2, false)] (by kernel_rfl) ?_
  have s1 := SG.self w none
  refine W.sn (fun b => .pointer (some ⟨b, 0, none⟩)) #[.int .i64 m, .slice A n c] 31 s1 rfl (by kernel_rfl) rfl (fun _ => by kernel_rfl) (fun b2 w3 hb4 k5 x6 s7 => ?_)
  have lo8 : w.heap.size ≤ b2 := by have := ((SG.belowR (Below.refl _ _) s1 (fun kq e => by cases e))).size; omega
  refine W.sq (v := .slice none 0 0) rfl (r_assign rfl (by kernel_rfl)) (by kernel_rfl) rfl rfl ?_
  refine W.sq (v := .bool false) rfl (r_assign rfl (by kernel_rfl)) (by kernel_rfl) rfl rfl ?_
  refine W.sch_end (l' := [.agg #[.int .i64 m, .slice A n c], .slice A2 n2 c2, .int .i64 a, .pointer (some ⟨b2, 0, none⟩), undef, undef, .slice none 0 0, .bool false, undef, undef, undef, undef, undef, undef, undef, undef, undef, undef, undef, undef, undef, undef, undef, undef, undef, undef, undef, undef, undef, undef, undef, undef, undef, undef, undef, undef, undef, undef, undef, undef, undef]) (by kernel_rfl) ?_
  have c9 := (SG.belowR (Below.refl _ _) s7 (fun kq e => by cases e))
  refine h1 _ _ ?_
  refine wp_seq_k (fun K2 h2 => ?_)
  refine wp_seq_k (fun K3 h3 => ?_)
  refine W.region_plain (row := none) [(0, false), (1, false), (2, true), (3, false), (4, false), (5, false), (6, false), (7, true), (8, false), (9, false)] (by kernel_rfl) ?_
  have s10 := SG.self w3 none
  refine W.sq (v := .agg #[.int .i64 m, .slice A n c]) rfl (r_load2 rfl (by kernel_rfl) (by kernel_rfl) (by kernel_rfl) (sgS (blk_cell (j := 0) x6 (by kernel_rfl)) (by simp)) (sgS (blk_cell (j := 1) x6 (by kernel_rfl)) (by simp))) (by kernel_rfl) rfl rfl ?_
  refine W.sq (v := .slice A2 n2 c2) rfl (r_move rfl (by kernel_rfl)) (by kernel_rfl) rfl rfl ?_
  refine W.sc (vs := [.agg #[.int .i64 m, .slice A n c], .slice A2 n2 c2]) rfl rfl (by kernel_rfl) (by kernel_rfl) (by kernel_rfl) rfl (IsValidValves_any m A n c ps A2 n2 c2 vs _ (Rd.kept ha (SG.belowR c9 s10 (fun kq e => by cases e))) (Rd.kept hb (SG.belowR c9 s10 (fun kq e => by cases e))) (by omega) (by omega) hfm2) ?_
  rintro e w12 ⟨rfl, b11⟩
  have s13 := SG.of_below s10 b11
  refine ⟨_, rfl, s13, ?_⟩
  rcases Bool.eq_false_or_eq_true (goodV m ps vs) with q14 | q14
  · rw [q14]
    have hv9 := goodV_of q14
    have hg := hv9.net
    have hgl := hg.lo
    have hgh := hg.hi
    have hp := hg.pipesIn
    have hlen10 := hg.len
    have hu := hv9.uniq
    have hvl := hv9.len
    refine W.sq (v := .bool false) rfl (r_not (b := true) rfl (by kernel_rfl) rfl) (by kernel_rfl) rfl rfl ?_
    refine W.sq (v := .bool false) rfl (r_move rfl (by kernel_rfl)) (by kernel_rfl) rfl rfl ?_
    refine W.sq (v := .agg #[.int .i64 m, .slice A n c]) rfl (r_load2 rfl (by kernel_rfl) (by kernel_rfl) (by kernel_rfl) (sgS (blk_cell (j := 0) x6 (by kernel_rfl)) (by simp)) (sgS (blk_cell (j := 1) x6 (by kernel_rfl)) (by simp))) (by kernel_rfl) rfl rfl ?_
    refine W.sq (v := .int .i64 a) rfl (r_move rfl (by kernel_rfl)) (by kernel_rfl) rfl rfl ?_
    refine W.sc (vs := [.agg #[.int .i64 m, .slice A n c], .int .i64 a]) rfl rfl (by kernel_rfl) (by kernel_rfl) (by kernel_rfl) rfl (pipeIndex_any m A n c ps a _ (Rd.kept ha (SG.belowR c9 s13 (fun kq e => by cases e))) (by omega)) ?_
    rintro e w16 ⟨rfl, b15⟩
    have s17 := SG.of_below s13 b15
    refine ⟨_, rfl, s17, ?_⟩
    by_cases q18 : (findL ps a : Int) < (0 : Int)
    · refine W.sq (v := .bool true) rfl (r_lss (m := findL ps a) (n := 0) rfl (by kernel_rfl) (by kernel_rfl) (decide_eq_true q18)) (by kernel_rfl) rfl rfl ?_
      refine W.sq (v := .bool true) rfl (r_pick (b := false) rfl (by kernel_rfl) (by kernel_rfl)) (by kernel_rfl) rfl rfl ?_
      refine W.sch_endU (fun U19 => [.agg #[.int .i64 m, .slice A n c], .slice A2 n2 c2, .int .i64 a, .pointer (some ⟨b2, 0, none⟩), undef, undef, .slice none 0 0, .bool false, undef, undef, undef, U19 11, U19 12, U19 13, U19 14, U19 15, U19 16, U19 17, U19 18, U19 19, .bool true, undef, undef, undef, undef, undef, undef, undef, undef, undef, undef, undef, undef, undef, undef, undef, undef, undef, undef, undef, undef]) (by kernel_rfl) (fun U19 => ?_)
      have x6 := SG.blk s17 x6 (by simp)
      have c20 := (SG.belowR c9 s17 (fun kq e => by cases e))
      refine h3 _ _ ?_
      refine wp_cond_true (by kernel_rfl) ?_
      refine wp_seq_k (fun K4 h4 => ?_)
      refine W.region_quiet [(0, false), (1, false)] (by kernel_rfl) ?_
      refine W.sq (v := .slice none 0 0) rfl (r_assign rfl (by kernel_rfl)) (by kernel_rfl) rfl rfl ?_
      refine W.sq (v := .bool false) rfl (r_assign rfl (by kernel_rfl)) (by kernel_rfl) rfl rfl ?_
      refine W.sch_end (l' := [.agg #[.int .i64 m, .slice A n c], .slice A2 n2 c2, .int .i64 a, .pointer (some ⟨b2, 0, none⟩), undef, undef, .slice none 0 0, .bool false, undef, undef, undef, (U19 11), (U19 12), (U19 13), (U19 14), (U19 15), (U19 16), (U19 17), (U19 18), (U19 19), .bool true, undef, undef, undef, undef, undef, undef, undef, undef, undef, undef, undef, undef, undef, undef, undef, undef, undef, undef, undef, undef]) (by kernel_rfl) ?_
      refine h4 _ _ ?_
      refine wp_ret ?_
      try simp only [Exit.then]
      refine ret2 (v := .slice none 0 0) (x := .bool false) rfl (by kernel_rfl) (by kernel_rfl) ?_
      have ok21 : ValvesAround_v1 m ps vs a = false := by unfold ValvesAround_v1; rw [decide_eq_false (by omega), Bool.and_false]
      exact fin_ints (zs := []) (World.ownsRow_nil _ _ _ _) (by unfold ValvesAround_v0; rw [if_neg (by rw [ok21]; simp)]) ok21.symm c20
    · refine W.sq (v := .bool false) rfl (r_lss (m := findL ps a) (n := 0) rfl (by kernel_rfl) (by kernel_rfl) (decide_eq_false q18)) (by kernel_rfl) rfl rfl ?_
      refine W.sq (v := .bool false) rfl (r_pick (b := false) rfl (by kernel_rfl) (by kernel_rfl)) (by kernel_rfl) rfl rfl ?_
      refine W.sch_endU (fun U22 => [.agg #[.int .i64 m, .slice A n c], .slice A2 n2 c2, .int .i64 a, .pointer (some ⟨b2, 0, none⟩), undef, undef, .slice none 0 0, .bool false, undef, undef, undef, U22 11, U22 12, U22 13, U22 14, U22 15, U22 16, U22 17, U22 18, U22 19, .bool false, undef, undef, undef, undef, undef, undef, undef, undef, undef, undef, undef, undef, undef, undef, undef, undef, undef, undef, undef, undef]) (by kernel_rfl) (fun U22 => ?_)
      have x6 := SG.blk s17 x6 (by simp)
      have c23 := (SG.belowR c9 s17 (fun kq e => by cases e))
      refine h3 _ _ ?_
      refine wp_cond_false (by kernel_rfl) ?_
      refine wp_skip ?_
      refine h2 _ _ ?_
      refine wp_seq_k (fun K5 h5 => ?_)
      refine W.region_plain (row := none) [(0, true), (1, false)] (by kernel_rfl) ?_
      have s24 := SG.self w16 none
      refine W.sn (fun b => .slice (some ⟨b, 0, none⟩) 0 0) #[] 3 s24 rfl (by kernel_rfl) rfl (fun _ => by kernel_rfl) (fun b25 w26 hb27 k28 x29 s30 => ?_)
      have lo31 : w.heap.size ≤ b25 := by have := ((SG.belowR c23 s24 (fun kq e => by cases e))).size; omega
      have ne32 : b2 ≠ b25 := by have := blk_lt x6; have := World.grownBy.size s24; omega
      refine W.sq (v := .slice (some ⟨b25, 0, none⟩) 0 0) rfl (r_assign rfl (by kernel_rfl)) (by kernel_rfl) rfl rfl ?_
      refine W.sch_endU (fun U33 => [.agg #[.int .i64 m, .slice A n c], .slice A2 n2 c2, .int .i64 a, .pointer (some ⟨b2, 0, none⟩), undef, undef, .slice none 0 0, .bool false, .slice (some ⟨b25, 0, none⟩) 0 0, undef, undef, (U22 11), (U22 12), (U22 13), (U22 14), (U22 15), (U22 16), (U22 17), (U22 18), (U22 19), .bool false, U33 21, undef, undef, undef, undef, undef, undef, undef, undef, undef, undef, undef, undef, undef, undef, undef, undef, undef, undef, undef]) (by kernel_rfl) (fun U33 => ?_)
      have x6 := SG.blk s30 x6 (by simp)
      have c34 := (SG.belowR c23 s30 (fun kq e => by cases e))
      refine h5 _ _ ?_
      refine wp_seq_k (fun K6 h6 => ?_)
      refine wp_seq_k (fun K7 h7 => ?_)
      refine W.region_plain (row := none) [(0, false), (1, false), (2, false), (3, true), (4, false), (5, false)] (by kernel_rfl) ?_
      have s35 := SG.self w26 none
      refine W.sq (v := .agg #[.int .i64 m, .slice A n c]) rfl (r_load2 rfl (by kernel_rfl) (by kernel_rfl) (by kernel_rfl) (sgS (blk_cell (j := 0) x6 (by kernel_rfl)) (by simp)) (sgS (blk_cell (j := 1) x6 (by kernel_rfl)) (by simp))) (by kernel_rfl) rfl rfl ?_
      refine W.sq (v := .slice A2 n2 c2) rfl (r_move rfl (by kernel_rfl)) (by kernel_rfl) rfl rfl ?_
      refine W.sq (v := .int .i64 a) rfl (r_move rfl (by kernel_rfl)) (by kernel_rfl) rfl rfl ?_
      refine W.sc (vs := [.agg #[.int .i64 m, .slice A n c], .slice A2 n2 c2, .int .i64 a]) rfl rfl (by kernel_rfl) (by kernel_rfl) (by kernel_rfl) rfl (valvesAround_any m A n c ps A2 n2 c2 vs a _ (Rd.kept ha (SG.belowR c34 s35 (fun kq e => by cases e))) (Rd.kept hb (SG.belowR c34 s35 (fun kq e => by cases e))) (by omega) (by omega) hv9 (by omega)) ?_
      rintro e w45 ⟨A36, n37, c38, rfl, ho39, b44⟩
      have s46 := SG.of_below s35 b44
      refine ⟨_, rfl, s46, ?_⟩
      have rd40 := own_rd ho39
      have fm43 := own_fm ho39
      have hl41 := rd_ints_len rd40
      have sp47 := sp_freshB (g := b2) ho39 (Nat.lt_of_lt_of_le (blk_lt x6) (World.grownBy.size s35))
      have sp48 := sp_freshB (g := b25) ho39 (Nat.lt_of_lt_of_le (blk_lt x29) (World.grownBy.size s35))
      have := aroundI_len ps vs (9 + findL ps a) vs.length
      refine W.sq (v := .int .i64 ((n37 : Nat) : Int)) rfl (r_len (A := A36) (n := n37) (c := c38) rfl (by kernel_rfl) (by kernel_rfl)) (by kernel_rfl) rfl rfl ?_
      refine W.sq (v := .int .i64 0) rfl (r_move rfl (by kernel_rfl)) (by kernel_rfl) rfl rfl ?_
      refine W.sch_endU (fun U49 => [.agg #[.int .i64 m, .slice A n c], .slice A2 n2 c2, .int .i64 a, .pointer (some ⟨b2, 0, none⟩), undef, undef, .slice none 0 0, .bool false, .slice (some ⟨b25, 0, none⟩) 0 0, undef, undef, (U22 11), (U22 12), (U22 13), (U22 14), (U22 15), (U22 16), (U22 17), (U22 18), (U22 19), .bool false, (U33 21), U49 22, U49 23, U49 24, .slice A36 n37 c38, .int .i64 ((n37 : Nat) : Int), .int .i64 0, undef, undef, undef, undef, undef, undef, undef, undef, undef, undef, undef, undef, undef]) (by kernel_rfl) (fun U49 => ?_)
      have x6 := SG.blk s46 x6 (by simp)
      have x29 := SG.blk s46 x29 (by simp)
      have c50 := (SG.belowR c34 s46 (fun kq e => by cases e))
      refine h7 _ _ ?_
      refine wp_block ?_
      have ho51 := own_empty (base := w.heap.size) (size := 1) x29 lo31
      replace ho51 : World.ownsRow _ _ _ _ _ _ (intsV []) := ho51
      have sp52 := sp_own (n' := 0) (c := 0) sp48
      have nb53 : Nb b2 (.slice (some ⟨b25, 0, none⟩) 0 0) := nb_new (by have := ne32; omega)
      refine loopK (fun am0 aa0 wl0 => ∃ (i : Nat) (A0_8 : Option Addr) (n0_8 : Nat) (c0_8 : Nat) (U0 : Nat → Value), aa0 = ⟨[.agg #[.int .i64 m, .slice A n c], .slice A2 n2 c2, .int .i64 a, .pointer (some ⟨b2, 0, none⟩), undef, undef, .slice none 0 0, .bool false, .slice A0_8 n0_8 c0_8, undef, U0 10, (U22 11), (U22 12), (U22 13), (U22 14), (U22 15), (U22 16), (U22 17), (U22 18), (U22 19), .bool false, (U33 21), (U49 22), (U49 23), (U49 24), .slice A36 n37 c38, .int .i64 ((n37 : Nat) : Int), .int .i64 ((i : Nat) : Int), U0 28, U0 29, U0 30, U0 31, U0 32, U0 33, U0 34, U0 35, U0 36, U0 37, U0 38, U0 39, undef].toArray, []⟩ ∧ (am0 = n37 - i) ∧ (i ≤ n37) ∧ (n0_8 ≤ i) ∧ (wl0.heap[b2]? = some (.cells #[.int .i64 m, .slice A n c] 31 (0, 0))) ∧ (wl0.ownsRow w.heap.size 3 1 (.slice A0_8 n0_8 c0_8) n0_8 (intsV (idsV vs ((aroundI ps vs (9 + findL ps a) vs.length).take i)))) ∧ (Nb b2 (.slice A0_8 n0_8 c0_8)) ∧ (Rd wl0 1 A36 n37 (intsV (aroundI ps vs (9 + findL ps a) vs.length))) ∧ (Sp A36 n37 (Value.ownBlock (.slice A0_8 n0_8 c0_8))) ∧ (Below w.heap.size w wl0)) (n37 - 0) ?_ ?_
      · exact ⟨0, (some ⟨b25, 0, none⟩), 0, 0, (fun iU9 => [.agg #[.int .i64 m, .slice A n c], .slice A2 n2 c2, .int .i64 a, .pointer (some ⟨b2, 0, none⟩), undef, undef, .slice none 0 0, .bool false, .slice (some ⟨b25, 0, none⟩) 0 0, undef, undef, (U22 11), (U22 12), (U22 13), (U22 14), (U22 15), (U22 16), (U22 17), (U22 18), (U22 19), .bool false, (U33 21), (U49 22), (U49 23), (U49 24), .slice A36 n37 c38, .int .i64 ((n37 : Nat) : Int), .int .i64 0, undef, undef, undef, undef, undef, undef, undef, undef, undef, undef, undef, undef, undef].getD iU9 undef), (by kernel_rfl), rfl, (Nat.zero_le _), (Nat.zero_le _), x6, ho51, nb53, rd40, sp52, c50⟩
      rintro am0 aa0 wl0 K8 h8 ⟨i, A0_8, n0_8, c0_8, U0, rfl, rfl, hi, hb8, x6, ho0_8, nb0_8_b2, rd0_25, sp0_25_8, c54⟩
      refine wp_seq_k (fun K9 h9 => ?_)
      refine W.region_quiet [(0, false)] (by kernel_rfl) ?_
      by_cases q55 : (((i : Nat) : Int) : Int) < (((n37 : Nat) : Int) : Int)
      · refine W.sq (v := .bool true) rfl (r_lss (m := ((i : Nat) : Int)) (n := ((n37 : Nat) : Int)) rfl (by kernel_rfl) (by kernel_rfl) (decide_eq_true q55)) (by kernel_rfl) rfl rfl ?_
        refine W.sch_end (l' := [.agg #[.int .i64 m, .slice A n c], .slice A2 n2 c2, .int .i64 a, .pointer (some ⟨b2, 0, none⟩), undef, undef, .slice none 0 0, .bool false, .slice A0_8 n0_8 c0_8, undef, (U0 10), (U22 11), (U22 12), (U22 13), (U22 14), (U22 15), (U22 16), (U22 17), (U22 18), (U22 19), .bool false, (U33 21), (U49 22), (U49 23), (U49 24), .slice A36 n37 c38, .int .i64 ((n37 : Nat) : Int), .int .i64 ((i : Nat) : Int), .bool true, (U0 29), (U0 30), (U0 31), (U0 32), (U0 33), (U0 34), (U0 35), (U0 36), (U0 37), (U0 38), (U0 39), undef]) (by kernel_rfl) ?_
        refine h9 _ _ ?_
        refine wp_seq_k (fun K10 h10 => ?_)
        refine wp_cond_true (by kernel_rfl) ?_
        refine wp_skip ?_
        refine h10 _ _ ?_
        refine wp_seq_k (fun K11 h11 => ?_)
        refine wp_block ?_
        refine wp_seq_k (fun K12 h12 => ?_)
        refine W.region_quiet [(0, false), (1, false), (2, false)] (by kernel_rfl) ?_
        obtain ⟨x56, hx57⟩ := get_of (zs := (aroundI ps vs (9 + findL ps a) vs.length)) (k := i) (by have := hl41; omega)
        obtain ⟨b58, o59, hA60, hb61, hc62⟩ := Rd.elInt rd0_25 hx57
        refine W.sq (v := .pointer (some ⟨b58, o59 + i, none⟩)) rfl (r_idx1 (n := n37) (c := c38) (k := i) rfl (by kernel_rfl) hA60 (by kernel_rfl) (by kernel_rfl) (by have := hl41; omega)) (by kernel_rfl) rfl rfl ?_
        refine W.sq (v := .int .i64 x56) rfl (r_load rfl (by kernel_rfl) (by kernel_rfl) (eqS hc62)) (by kernel_rfl) rfl rfl ?_
        refine W.sq (v := .int .i64 x56) rfl (r_assign rfl (by kernel_rfl)) (by kernel_rfl) rfl rfl ?_
        refine W.sch_endU (fun U63 => [.agg #[.int .i64 m, .slice A n c], .slice A2 n2 c2, .int .i64 a, .pointer (some ⟨b2, 0, none⟩), undef, undef, .slice none 0 0, .bool false, .slice A0_8 n0_8 c0_8, undef, .int .i64 x56, (U22 11), (U22 12), (U22 13), (U22 14), (U22 15), (U22 16), (U22 17), (U22 18), (U22 19), .bool false, (U33 21), (U49 22), (U49 23), (U49 24), .slice A36 n37 c38, .int .i64 ((n37 : Nat) : Int), .int .i64 ((i : Nat) : Int), .bool true, U63 29, U63 30, (U0 31), (U0 32), (U0 33), (U0 34), (U0 35), (U0 36), (U0 37), (U0 38), (U0 39), undef]) (by kernel_rfl) (fun U63 => ?_)
        refine h12 _ _ ?_
        refine W.region_plain (row := (Value.ownBlock (.slice A0_8 n0_8 c0_8))) [(0, false), (1, false), (2, false), (3, false), (4, false), (5, false), (6, true), (7, true), (8, false)] (by kernel_rfl) ?_
        have s64 := SG.self wl0 (Value.ownBlock (.slice A0_8 n0_8 c0_8))
        refine W.sq (v := .slice A0_8 n0_8 c0_8) rfl (r_move rfl (by kernel_rfl)) (by kernel_rfl) rfl rfl ?_
        refine W.sq (v := .slice A2 n2 c2) rfl (r_move rfl (by kernel_rfl)) (by kernel_rfl) rfl rfl ?_
        refine W.sq (v := .int .i64 x56) rfl (r_move rfl (by kernel_rfl)) (by kernel_rfl) rfl rfl ?_
        have hy9 := aroundI_in (List.mem_of_getElem? hx57)
        obtain ⟨x65, hx66⟩ := get_of (zs := vs) (k := x56.toNat) (by have := hl2; omega)
        obtain ⟨b67, o68, hA69, hb70, hc71, hc72, hc73, hc74⟩ := Rd.elValve hb hx66
        refine W.sq (v := .pointer (some ⟨b67, o68 + x56.toNat * 4, none⟩)) rfl (r_idx (n := n2) (c := c2) (k := x56.toNat) rfl (by kernel_rfl) hA69 (evk (z := x56) (by kernel_rfl) (by omega)) (by kernel_rfl) (by have := hl2; omega)) (by kernel_rfl) rfl rfl ?_
        refine W.sq (v := .pointer (some ⟨b67, o68 + x56.toNat * 4, none⟩)) rfl (r_field0 rfl (by kernel_rfl) (by kernel_rfl)) (by kernel_rfl) rfl rfl ?_
        refine W.sq (v := .int .i64 x65.id) rfl (r_load rfl (by kernel_rfl) (by kernel_rfl) (sgS (later c54 hc71) (nb_lo ho0_8 hb70))) (by kernel_rfl) rfl rfl ?_
        refine W.sn (fun b => .slice (some ⟨b, 0, none⟩) 1 1) #[.int .i64 x65.id] 3 s64 rfl (by kernel_rfl) rfl (fun _ => by kernel_rfl) (fun b75 w76 hb77 k78 x79 s80 => ?_)
        have lo81 : w.heap.size ≤ b75 := by have := ((SG.belowR c54 s64 (fun kq e => (World.ownsRow.lt ho0_8 kq e).1))).size; omega
        have sp82 : Sp A36 n37 (some b75) := sp_new rd0_25 (by have := World.grownBy.size s64; have := hb77; omega)
        have ne83 : b2 ≠ b75 := by have := blk_lt x6; have := World.grownBy.size s64; omega
        have nb84 : Nb b75 (.slice A0_8 n0_8 c0_8) := nb_hi ho0_8 (Nat.le_of_eq hb77)
        have ho85 := own_kept ho0_8 k78
        refine W.sap (e := 3) (size := 1) (base := w.heap.size) (m := 1) (v := .slice A0_8 n0_8 c0_8) (c := 1) s80 rfl rfl rfl rfl (by kernel_rfl) (by kernel_rfl) (by kernel_rfl) ho85 x79 (by kernel_rfl) (by kernel_rfl) (by omega) (by omega) (by have := ((SG.belowR c54 s80 (fun kq e => (World.ownsRow.lt ho0_8 kq e).1))).size; omega) (.inl rfl) (fun g86 cap87 w88 ho89 hg90 hat91 hlt92 s93 => ?_)
        have nb94 : Nb b2 (.slice (some ⟨g86, 0, none⟩) (n0_8 + 1) cap87) := nb_app nb0_8_b2 (Nat.lt_of_lt_of_le (blk_lt x6) (World.grownBy.size s80)) hat91
        have nb95 : Nb b75 (.slice (some ⟨g86, 0, none⟩) (n0_8 + 1) cap87) := nb_app nb84 (blk_lt x79) hat91
        have x79 := (hg90.block _ (blk_lt x79) nb84).trans x79
        have ho89 := own_snoc ho89
        have sp96 := sp_app (v' := .slice (some ⟨g86, 0, none⟩) (n0_8 + 1) cap87) sp0_25_8 rd0_25 (World.grownBy.size s80) (hat3 (v := .slice A0_8 n0_8 c0_8) hat91)
        refine W.sq (v := .slice (some ⟨g86, 0, none⟩) (n0_8 + 1) cap87) rfl (r_assign rfl (by kernel_rfl)) (by kernel_rfl) rfl rfl ?_
        refine W.sch_endU (fun U97 => [.agg #[.int .i64 m, .slice A n c], .slice A2 n2 c2, .int .i64 a, .pointer (some ⟨b2, 0, none⟩), undef, undef, .slice none 0 0, .bool false, .slice (some ⟨g86, 0, none⟩) (n0_8 + 1) cap87, undef, .int .i64 x56, (U22 11), (U22 12), (U22 13), (U22 14), (U22 15), (U22 16), (U22 17), (U22 18), (U22 19), .bool false, (U33 21), (U49 22), (U49 23), (U49 24), .slice A36 n37 c38, .int .i64 ((n37 : Nat) : Int), .int .i64 ((i : Nat) : Int), .bool true, (U63 29), (U63 30), U97 31, U97 32, U97 33, U97 34, U97 35, U97 36, U97 37, U97 38, (U0 39), undef]) (by kernel_rfl) (fun U97 => ?_)
        have x6 := SG.blk s93 x6 nb0_8_b2
        have c98 := (SG.belowR c54 s93 (fun kq e => (World.ownsRow.lt ho0_8 kq e).1))
        have rd99 := rd_sep rd0_25 s93 sp0_25_8
        refine h11 _ _ ?_
        refine W.region_quiet [(0, false), (1, false)] (by kernel_rfl) ?_
        refine W.sq (v := .int .i64 ((i + 1 : Nat) : Int)) rfl (r_add (m := ((i : Nat) : Int)) (n := 1) (z := ((i + 1 : Nat) : Int)) rfl (by kernel_rfl) (by kernel_rfl) (by omega) (by omega)) (by kernel_rfl) rfl rfl ?_
        refine W.sq (v := .int .i64 ((i + 1 : Nat) : Int)) rfl (r_move rfl (by kernel_rfl)) (by kernel_rfl) rfl rfl ?_
        refine W.sch_endU (fun U100 => [.agg #[.int .i64 m, .slice A n c], .slice A2 n2 c2, .int .i64 a, .pointer (some ⟨b2, 0, none⟩), undef, undef, .slice none 0 0, .bool false, .slice (some ⟨g86, 0, none⟩) (n0_8 + 1) cap87, undef, .int .i64 x56, (U22 11), (U22 12), (U22 13), (U22 14), (U22 15), (U22 16), (U22 17), (U22 18), (U22 19), .bool false, (U33 21), (U49 22), (U49 23), (U49 24), .slice A36 n37 c38, .int .i64 ((n37 : Nat) : Int), .int .i64 ((i + 1 : Nat) : Int), .bool true, (U63 29), (U63 30), (U97 31), (U97 32), (U97 33), (U97 34), (U97 35), (U97 36), (U97 37), (U97 38), U100 39, undef]) (by kernel_rfl) (fun U100 => ?_)
        exact h8 _ _ _ (by omega : (n37 - (i + 1)) < _) ⟨i + 1, (some ⟨g86, 0, none⟩), (n0_8 + 1), cap87, (fun iU9 => [.agg #[.int .i64 m, .slice A n c], .slice A2 n2 c2, .int .i64 a, .pointer (some ⟨b2, 0, none⟩), undef, undef, .slice none 0 0, .bool false, .slice (some ⟨g86, 0, none⟩) (n0_8 + 1) cap87, undef, .int .i64 x56, (U22 11), (U22 12), (U22 13), (U22 14), (U22 15), (U22 16), (U22 17), (U22 18), (U22 19), .bool false, (U33 21), (U49 22), (U49 23), (U49 24), .slice A36 n37 c38, .int .i64 ((n37 : Nat) : Int), .int .i64 ((i + 1 : Nat) : Int), .bool true, (U63 29), (U63 30), (U97 31), (U97 32), (U97 33), (U97 34), (U97 35), (U97 36), (U97 37), (U97 38), (U100 39), undef].getD iU9 undef), (by kernel_rfl), rfl, (by omega), (by omega), x6, (by rw [idsV_take hx57 hx66]; exact ho89), nb94, rd99, sp96, c98⟩
      · refine W.sq (v := .bool false) rfl (r_lss (m := ((i : Nat) : Int)) (n := ((n37 : Nat) : Int)) rfl (by kernel_rfl) (by kernel_rfl) (decide_eq_false q55)) (by kernel_rfl) rfl rfl ?_
        refine W.sch_end (l' := [.agg #[.int .i64 m, .slice A n c], .slice A2 n2 c2, .int .i64 a, .pointer (some ⟨b2, 0, none⟩), undef, undef, .slice none 0 0, .bool false, .slice A0_8 n0_8 c0_8, undef, (U0 10), (U22 11), (U22 12), (U22 13), (U22 14), (U22 15), (U22 16), (U22 17), (U22 18), (U22 19), .bool false, (U33 21), (U49 22), (U49 23), (U49 24), .slice A36 n37 c38, .int .i64 ((n37 : Nat) : Int), .int .i64 ((i : Nat) : Int), .bool false, (U0 29), (U0 30), (U0 31), (U0 32), (U0 33), (U0 34), (U0 35), (U0 36), (U0 37), (U0 38), (U0 39), undef]) (by kernel_rfl) ?_
        refine h9 _ _ ?_
        refine wp_seq_k (fun K13 h13 => ?_)
        refine wp_cond_false (by kernel_rfl) ?_
        refine wp_exit ?_
        refine h6 _ _ ?_
        refine wp_seq_k (fun K14 h14 => ?_)
        refine W.region_quiet [(0, false), (1, false), (2, false)] (by kernel_rfl) ?_
        refine W.sq (v := .slice A0_8 n0_8 c0_8) rfl (r_move rfl (by kernel_rfl)) (by kernel_rfl) rfl rfl ?_
        refine W.sq (v := .slice A0_8 n0_8 c0_8) rfl (r_assign rfl (by kernel_rfl)) (by kernel_rfl) rfl rfl ?_
        refine W.sq (v := .bool true) rfl (r_assign rfl (by kernel_rfl)) (by kernel_rfl) rfl rfl ?_
        refine W.sch_endU (fun U101 => [.agg #[.int .i64 m, .slice A n c], .slice A2 n2 c2, .int .i64 a, .pointer (some ⟨b2, 0, none⟩), undef, undef, .slice A0_8 n0_8 c0_8, .bool true, .slice A0_8 n0_8 c0_8, undef, (U0 10), (U22 11), (U22 12), (U22 13), (U22 14), (U22 15), (U22 16), (U22 17), (U22 18), (U22 19), .bool false, (U33 21), (U49 22), (U49 23), (U49 24), .slice A36 n37 c38, .int .i64 ((n37 : Nat) : Int), .int .i64 ((i : Nat) : Int), .bool false, (U0 29), (U0 30), (U0 31), (U0 32), (U0 33), (U0 34), (U0 35), (U0 36), (U0 37), (U0 38), (U0 39), U101 40]) (by kernel_rfl) (fun U101 => ?_)
        refine h14 _ _ ?_
        refine wp_ret ?_
        try simp only [Exit.then]
        refine ret2 (v := .slice A0_8 n0_8 c0_8) (x := .bool true) rfl (by kernel_rfl) (by kernel_rfl) ?_
        have ok102 : ValvesAround_v1 m ps vs a = true := by unfold ValvesAround_v1; rw [q14, decide_eq_true (by omega)]; rfl
        exact fin_ints  ho0_8 (by unfold ValvesAround_v0; rw [if_pos ok102, List.take_of_length_le (by omega)]) ok102.symm c54
  · rw [q14]
    refine W.sq (v := .bool true) rfl (r_not (b := false) rfl (by kernel_rfl) rfl) (by kernel_rfl) rfl rfl ?_
    refine W.sq (v := .bool true) rfl (r_move rfl (by kernel_rfl)) (by kernel_rfl) rfl rfl ?_
    refine W.sk s13 rfl (by kernel_rfl) rfl rfl ?_
    refine W.sk s13 rfl (by kernel_rfl) rfl rfl ?_
    refine W.sk s13 rfl (by kernel_rfl) rfl rfl ?_
    refine W.sk s13 rfl (by kernel_rfl) rfl rfl ?_
    refine W.sq (v := .bool true) rfl (r_pick (b := true) rfl (by kernel_rfl) (by kernel_rfl)) (by kernel_rfl) rfl rfl ?_
    refine W.sch_endU (fun U103 => [.agg #[.int .i64 m, .slice A n c], .slice A2 n2 c2, .int .i64 a, .pointer (some ⟨b2, 0, none⟩), undef, undef, .slice none 0 0, .bool false, undef, undef, undef, U103 11, U103 12, U103 13, U103 14, U103 15, undef, undef, undef, undef, .bool true, undef, undef, undef, undef, undef, undef, undef, undef, undef, undef, undef, undef, undef, undef, undef, undef, undef, undef, undef, undef]) (by kernel_rfl) (fun U103 => ?_)
    have x6 := SG.blk s13 x6 (by simp)
    have c104 := (SG.belowR c9 s13 (fun kq e => by cases e))
    refine h3 _ _ ?_
    refine wp_cond_true (by kernel_rfl) ?_
    refine wp_seq_k (fun K15 h15 => ?_)
    refine W.region_quiet [(0, false), (1, false)] (by kernel_rfl) ?_
    refine W.sq (v := .slice none 0 0) rfl (r_assign rfl (by kernel_rfl)) (by kernel_rfl) rfl rfl ?_
    refine W.sq (v := .bool false) rfl (r_assign rfl (by kernel_rfl)) (by kernel_rfl) rfl rfl ?_
    refine W.sch_end (l' := [.agg #[.int .i64 m, .slice A n c], .slice A2 n2 c2, .int .i64 a, .pointer (some ⟨b2, 0, none⟩), undef, undef, .slice none 0 0, .bool false, undef, undef, undef, (U103 11), (U103 12), (U103 13), (U103 14), (U103 15), undef, undef, undef, undef, .bool true, undef, undef, undef, undef, undef, undef, undef, undef, undef, undef, undef, undef, undef, undef, undef, undef, undef, undef, undef, undef]) (by kernel_rfl) ?_
    refine h15 _ _ ?_
    refine wp_ret ?_
    try simp only [Exit.then]
    refine ret2 (v := .slice none 0 0) (x := .bool false) rfl (by kernel_rfl) (by kernel_rfl) ?_
    have ok105 : ValvesAround_v1 m ps vs a = false := by unfold ValvesAround_v1; rw [q14]; rfl
    exact fin_ints (zs := []) (World.ownsRow_nil _ _ _ _) (by unfold ValvesAround_v0; rw [if_neg (by rw [ok105]; simp)]) ok105.symm c104

set_option maxRecDepth 100000 in
set_option maxHeartbeats 1000000 in
theorem ValvesAround_spec (m : Int) (A : Option Addr) (n c : Nat) (ps : List Pp) (A2 : Option Addr) (n2 c2 : Nat) (vs : List Vv) (a : Int) (w : World) (ha : Rd w 4 A n (pipesV ps)) (hb : Rd w 4 A2 n2 (valvesV vs)) (hn : n ≤ 1048576) (hn2 : n2 ≤ 1048576) (hfm : Fm A n c) (hfm2 : Fm A2 n2 c2) :
    Calls Try.prog 33 #[.agg #[.int .i64 m, .slice A n c], .slice A2 n2 c2, .int .i64 a] w fun e w' => ∃ A' d, e = .returned (.tuple #[.slice A' (ValvesAround_v0 m ps vs a).length d, .bool (ValvesAround_v1 m ps vs a)]) ∧ Rd w' 1 A' (ValvesAround_v0 m ps vs a).length (intsV (ValvesAround_v0 m ps vs a)) ∧ Below w.heap.size w w' := by
  have hl := rd_pipes_len ha
  have hl2 := rd_valves_len hb
  have hfl := findL_lt ps a
  go_enter Try.func33, Try.ntmps33
  refine wp_seq_k (fun K1 h1 => ?_)
  refine W.region_plain (row := none) [(0, true), (1, false), (2, false)] (by kernel_rfl) ?_
  have s1 := SG.self w none
  refine W.sn (fun b => .pointer (some ⟨b, 0, none⟩)) #[.int .i64 m, .slice A n c] 31 s1 rfl (by kernel_rfl) rfl (fun _ => by kernel_rfl) (fun b2 w3 hb4 k5 x6 s7 => ?_)
  have lo8 : w.heap.size ≤ b2 := by have := ((SG.belowR (Below.refl _ _) s1 (fun kq e => by cases e))).size; omega
  refine W.sq (v := .slice none 0 0) rfl (r_assign rfl (by kernel_rfl)) (by kernel_rfl) rfl rfl ?_
  refine W.sq (v := .bool false) rfl (r_assign rfl (by kernel_rfl)) (by kernel_rfl) rfl rfl ?_
  refine W.sch_end (l' := [.agg #[.int .i64 m, .slice A n c], .slice A2 n2 c2, .int .i64 a, .pointer (some ⟨b2, 0, none⟩), undef, undef, .slice none 0 0, .bool false, undef, undef, undef, undef, undef, undef, undef, undef, undef, undef, undef, undef, undef, undef, undef, undef, undef, undef, undef, undef, undef, undef, undef, undef, undef, undef, undef, undef, undef, undef, undef, undef, undef, undef, undef, undef, undef, undef, undef, undef, undef, undef, undef, undef, undef, undef, undef, undef, undef, undef, undef]) (by kernel_rfl) ?_
  have c9 := (SG.belowR (Below.refl _ _) s7 (fun kq e => by cases e))
  refine h1 _ _ ?_
  refine wp_seq_k (fun K2 h2 => ?_)
  refine W.region_plain (row := none) [(0, true), (1, false)] (by kernel_rfl) ?_
  have s10 := SG.self w3 none
  refine W.sn (fun b => .slice (some ⟨b, 0, none⟩) 0 0) #[] 3 s10 rfl (by kernel_rfl) rfl (fun _ => by kernel_rfl) (fun b11 w12 hb13 k14 x15 s16 => ?_)
  have lo17 : w.heap.size ≤ b11 := by have := ((SG.belowR c9 s10 (fun kq e => by cases e))).size; omega
  have ne18 : b2 ≠ b11 := by have := blk_lt x6; have := World.grownBy.size s10; omega
  refine W.sq (v := .slice (some ⟨b11, 0, none⟩) 0 0) rfl (r_assign rfl (by kernel_rfl)) (by kernel_rfl) rfl rfl ?_
  refine W.sch_endU (fun U19 => [.agg #[.int .i64 m, .slice A n c], .slice A2 n2 c2, .int .i64 a, .pointer (some ⟨b2, 0, none⟩), undef, undef, .slice none 0 0, .bool false, .slice (some ⟨b11, 0, none⟩) 0 0, undef, undef, undef, undef, undef, U19 14, undef, undef, undef, undef, undef, undef, undef, undef, undef, undef, undef, undef, undef, undef, undef, undef, undef, undef, undef, undef, undef, undef, undef, undef, undef, undef, undef, undef, undef, undef, undef, undef, undef, undef, undef, undef, undef, undef, undef, undef, undef, undef, undef, undef]) (by kernel_rfl) (fun U19 => ?_)
  have x6 := SG.blk s16 x6 (by simp)
  have c20 := (SG.belowR c9 s16 (fun kq e => by cases e))
  refine h2 _ _ ?_
  refine wp_seq_k (fun K3 h3 => ?_)
  refine W.region_plain (row := none) [(0, false), (1, false), (2, true), (3, false)] (by kernel_rfl) ?_
  have s21 := SG.self w12 none
  refine W.sq (v := .agg #[.int .i64 m, .slice A n c]) rfl (r_load2 rfl (by kernel_rfl) (by kernel_rfl) (by kernel_rfl) (sgS (blk_cell (j := 0) x6 (by kernel_rfl)) (by simp)) (sgS (blk_cell (j := 1) x6 (by kernel_rfl)) (by simp))) (by kernel_rfl) rfl rfl ?_
  refine W.sq (v := .int .i64 a) rfl (r_move rfl (by kernel_rfl)) (by kernel_rfl) rfl rfl ?_
  refine W.sc (vs := [.agg #[.int .i64 m, .slice A n c], .int .i64 a]) rfl rfl (by kernel_rfl) (by kernel_rfl) (by kernel_rfl) rfl (l2Find_any m A n c ps a _ (Rd.kept ha (SG.belowR c20 s21 (fun kq e => by cases e))) (by omega)) ?_
  rintro e w23 ⟨rfl, b22⟩
  have s24 := SG.of_below s21 b22
  refine ⟨_, rfl, s24, ?_⟩
  refine W.sq (v := .int .i64 (findL ps a)) rfl (r_assign rfl (by kernel_rfl)) (by kernel_rfl) rfl rfl ?_
  refine W.sch_endU (fun U25 => [.agg #[.int .i64 m, .slice A n c], .slice A2 n2 c2, .int .i64 a, .pointer (some ⟨b2, 0, none⟩), undef, undef, .slice none 0 0, .bool false, .slice (some ⟨b11, 0, none⟩) 0 0, .int .i64 (findL ps a), undef, undef, undef, undef, (U19 14), U25 15, U25 16, U25 17, undef, undef, undef, undef, undef, undef, undef, undef, undef, undef, undef, undef, undef, undef, undef, undef, undef, undef, undef, undef, undef, undef, undef, undef, undef, undef, undef, undef, undef, undef, undef, undef, undef, undef, undef, undef, undef, undef, undef, undef, undef]) (by kernel_rfl) (fun U25 => ?_)
  have x6 := SG.blk s24 x6 (by simp)
  have x15 := SG.blk s24 x15 (by simp)
  have c26 := (SG.belowR c20 s24 (fun kq e => by cases e))
  refine h3 _ _ ?_
  refine wp_seq_k (fun K4 h4 => ?_)
  refine wp_seq_k (fun K5 h5 => ?_)
  refine W.region_plain (row := none) [(0, false), (1, false), (2, true), (3, false), (4, false), (5, false), (6, false), (7, false)] (by kernel_rfl) ?_
  have s27 := SG.self w23 none
  refine W.sq (v := .agg #[.int .i64 m, .slice A n c]) rfl (r_load2 rfl (by kernel_rfl) (by kernel_rfl) (by kernel_rfl) (sgS (blk_cell (j := 0) x6 (by kernel_rfl)) (by simp)) (sgS (blk_cell (j := 1) x6 (by kernel_rfl)) (by simp))) (by kernel_rfl) rfl rfl ?_
  refine W.sq (v := .slice A2 n2 c2) rfl (r_move rfl (by kernel_rfl)) (by kernel_rfl) rfl rfl ?_
  refine W.sc (vs := [.agg #[.int .i64 m, .slice A n c], .slice A2 n2 c2]) rfl rfl (by kernel_rfl) (by kernel_rfl) (by kernel_rfl) rfl (l4Good_any m A n c ps A2 n2 c2 vs _ (Rd.kept ha (SG.belowR c26 s27 (fun kq e => by cases e))) (Rd.kept hb (SG.belowR c26 s27 (fun kq e => by cases e))) (by omega) (by omega)) ?_
  rintro e w29 ⟨rfl, b28⟩
  have s30 := SG.of_below s27 b28
  refine ⟨_, rfl, s30, ?_⟩
  rcases Bool.eq_false_or_eq_true (goodV m ps vs) with q31 | q31
  · rw [q31]
    have hv9 := goodV_of q31
    have hg := hv9.net
    have hgl := hg.lo
    have hgh := hg.hi
    have hp := hg.pipesIn
    have hlen10 := hg.len
    have hu := hv9.uniq
    have hvl := hv9.len
    refine W.sq (v := .bool false) rfl (r_not (b := true) rfl (by kernel_rfl) rfl) (by kernel_rfl) rfl rfl ?_
    refine W.sq (v := .bool false) rfl (r_move rfl (by kernel_rfl)) (by kernel_rfl) rfl rfl ?_
    refine W.sq (v := .int .i64 (findL ps a)) rfl (r_move rfl (by kernel_rfl)) (by kernel_rfl) rfl rfl ?_
    by_cases q32 : (findL ps a : Int) < (0 : Int)
    · refine W.sq (v := .bool true) rfl (r_lss (m := findL ps a) (n := 0) rfl (by kernel_rfl) (by kernel_rfl) (decide_eq_true q32)) (by kernel_rfl) rfl rfl ?_
      refine W.sq (v := .bool true) rfl (r_pick (b := false) rfl (by kernel_rfl) (by kernel_rfl)) (by kernel_rfl) rfl rfl ?_
      refine W.sch_endU (fun U33 => [.agg #[.int .i64 m, .slice A n c], .slice A2 n2 c2, .int .i64 a, .pointer (some ⟨b2, 0, none⟩), undef, undef, .slice none 0 0, .bool false, .slice (some ⟨b11, 0, none⟩) 0 0, .int .i64 (findL ps a), undef, undef, undef, undef, (U19 14), (U25 15), (U25 16), (U25 17), U33 18, U33 19, U33 20, U33 21, U33 22, U33 23, U33 24, .bool true, undef, undef, undef, undef, undef, undef, undef, undef, undef, undef, undef, undef, undef, undef, undef, undef, undef, undef, undef, undef, undef, undef, undef, undef, undef, undef, undef, undef, undef, undef, undef, undef, undef]) (by kernel_rfl) (fun U33 => ?_)
      have x6 := SG.blk s30 x6 (by simp)
      have x15 := SG.blk s30 x15 (by simp)
      have c34 := (SG.belowR c26 s30 (fun kq e => by cases e))
      refine h5 _ _ ?_
      refine wp_cond_true (by kernel_rfl) ?_
      refine wp_seq_k (fun K6 h6 => ?_)
      refine W.region_quiet [(0, false), (1, false), (2, false)] (by kernel_rfl) ?_
      refine W.sq (v := .slice (some ⟨b11, 0, none⟩) 0 0) rfl (r_move rfl (by kernel_rfl)) (by kernel_rfl) rfl rfl ?_
      refine W.sq (v := .slice (some ⟨b11, 0, none⟩) 0 0) rfl (r_assign rfl (by kernel_rfl)) (by kernel_rfl) rfl rfl ?_
      refine W.sq (v := .bool false) rfl (r_assign rfl (by kernel_rfl)) (by kernel_rfl) rfl rfl ?_
      refine W.sch_endU (fun U35 => [.agg #[.int .i64 m, .slice A n c], .slice A2 n2 c2, .int .i64 a, .pointer (some ⟨b2, 0, none⟩), undef, undef, .slice (some ⟨b11, 0, none⟩) 0 0, .bool false, .slice (some ⟨b11, 0, none⟩) 0 0, .int .i64 (findL ps a), undef, undef, undef, undef, (U19 14), (U25 15), (U25 16), (U25 17), (U33 18), (U33 19), (U33 20), (U33 21), (U33 22), (U33 23), (U33 24), .bool true, U35 26, undef, undef, undef, undef, undef, undef, undef, undef, undef, undef, undef, undef, undef, undef, undef, undef, undef, undef, undef, undef, undef, undef, undef, undef, undef, undef, undef, undef, undef, undef, undef, undef]) (by kernel_rfl) (fun U35 => ?_)
      refine h6 _ _ ?_
      refine wp_ret ?_
      try simp only [Exit.then]
      refine ret2 (v := .slice (some ⟨b11, 0, none⟩) 0 0) (x := .bool false) rfl (by kernel_rfl) (by kernel_rfl) ?_
      have ok36 : ValvesAround_v1 m ps vs a = false := by unfold ValvesAround_v1; rw [decide_eq_false (by omega), Bool.and_false]
      have ho37 := own_empty (base := w.heap.size) (size := 1) x15 lo17
      replace ho37 : World.ownsRow _ _ _ _ _ _ (intsV []) := ho37
      have nb38 : Nb b2 (.slice (some ⟨b11, 0, none⟩) 0 0) := nb_new (by have := ne18; omega)
      exact fin_rd (zs := []) (own_rd ho37) (by unfold ValvesAround_v0; rw [if_neg (by rw [ok36]; simp)]) ok36.symm c34
    · refine W.sq (v := .bool false) rfl (r_lss (m := findL ps a) (n := 0) rfl (by kernel_rfl) (by kernel_rfl) (decide_eq_false q32)) (by kernel_rfl) rfl rfl ?_
      refine W.sq (v := .bool false) rfl (r_pick (b := false) rfl (by kernel_rfl) (by kernel_rfl)) (by kernel_rfl) rfl rfl ?_
      refine W.sch_endU (fun U39 => [.agg #[.int .i64 m, .slice A n c], .slice A2 n2 c2, .int .i64 a, .pointer (some ⟨b2, 0, none⟩), undef, undef, .slice none 0 0, .bool false, .slice (some ⟨b11, 0, none⟩) 0 0, .int .i64 (findL ps a), undef, undef, undef, undef, (U19 14), (U25 15), (U25 16), (U25 17), U39 18, U39 19, U39 20, U39 21, U39 22, U39 23, U39 24, .bool false, undef, undef, undef, undef, undef, undef, undef, undef, undef, undef, undef, undef, undef, undef, undef, undef, undef, undef, undef, undef, undef, undef, undef, undef, undef, undef, undef, undef, undef, undef, undef, undef, undef]) (by kernel_rfl) (fun U39 => ?_)
      have x6 := SG.blk s30 x6 (by simp)
      have x15 := SG.blk s30 x15 (by simp)
      have c40 := (SG.belowR c26 s30 (fun kq e => by cases e))
      refine h5 _ _ ?_
      refine wp_cond_false (by kernel_rfl) ?_
      refine wp_skip ?_
      refine h4 _ _ ?_
      refine wp_seq_k (fun K7 h7 => ?_)
      refine W.region_plain (row := none) [(0, false), (1, false), (2, true), (3, false), (4, true), (5, true), (6, false), (7, false), (8, false), (9, false), (10, false)] (by kernel_rfl) ?_
      have s41 := SG.self w29 none
      refine W.sq (v := .agg #[.int .i64 m, .slice A n c]) rfl (r_load2 rfl (by kernel_rfl) (by kernel_rfl) (by kernel_rfl) (sgS (blk_cell (j := 0) x6 (by kernel_rfl)) (by simp)) (sgS (blk_cell (j := 1) x6 (by kernel_rfl)) (by simp))) (by kernel_rfl) rfl rfl ?_
      refine W.sq (v := .slice A2 n2 c2) rfl (r_move rfl (by kernel_rfl)) (by kernel_rfl) rfl rfl ?_
      refine W.sn (fun b => .slice (some ⟨b, 0, none⟩) 0 0) #[] 3 s41 rfl (by kernel_rfl) rfl (fun _ => by kernel_rfl) (fun b42 w43 hb44 k45 x46 s47 => ?_)
      have lo48 : w.heap.size ≤ b42 := by have := ((SG.belowR c40 s41 (fun kq e => by cases e))).size; omega
      have ne49 : b2 ≠ b42 := by have := blk_lt x6; have := World.grownBy.size s41; omega
      have ne50 : b11 ≠ b42 := by have := blk_lt x15; have := World.grownBy.size s41; omega
      refine W.sq (v := .int .i64 (findL ps a)) rfl (r_move rfl (by kernel_rfl)) (by kernel_rfl) rfl rfl ?_
      refine W.sn (fun b => .slice (some ⟨b, 0, none⟩) 1 1) #[.int .i64 (findL ps a)] 3 s47 rfl (by kernel_rfl) rfl (fun _ => by kernel_rfl) (fun b51 w52 hb53 k54 x55 s56 => ?_)
      have lo57 : w.heap.size ≤ b51 := by have := ((SG.belowR c40 s47 (fun kq e => by cases e))).size; omega
      have ne58 : b2 ≠ b51 := by have := blk_lt x6; have := World.grownBy.size s47; omega
      have ne59 : b11 ≠ b51 := by have := blk_lt x15; have := World.grownBy.size s47; omega
      have ne60 : b42 ≠ b51 := by have := blk_lt x46; omega
      have x46 := (k54.block _ (blk_lt x46)).trans x46
      have ho61 := own_empty (base := w.heap.size) (size := 1) x46 lo48
      replace ho61 : World.ownsRow _ _ _ _ _ _ (intsV []) := ho61
      have nb62 : Nb b2 (.slice (some ⟨b42, 0, none⟩) 0 0) := nb_new (by have := ne49; omega)
      have nb63 : Nb b11 (.slice (some ⟨b42, 0, none⟩) 0 0) := nb_new (by have := ne50; omega)
      have nb64 : Nb b51 (.slice (some ⟨b42, 0, none⟩) 0 0) := nb_new (by have := ne60; omega)
      have rd66 := own_rd ho61
      have hl67 := rd_ints_len rd66
      have ho68 := own_blk (base := w.heap.size) (size := 1) (n := 1) x55 lo57 rfl (by omega)
      replace ho68 : World.ownsRow _ _ _ _ _ _ (intsV [findL ps a]) := ho68
      have nb69 : Nb b2 (.slice (some ⟨b51, 0, none⟩) 1 1) := nb_new (by have := ne58; omega)
      have nb70 : Nb b11 (.slice (some ⟨b51, 0, none⟩) 1 1) := nb_new (by have := ne59; omega)
      have rd72 := own_rd ho68
      have hl73 := rd_ints_len rd72
      refine W.sc (vs := [.agg #[.int .i64 m, .slice A n c], .slice A2 n2 c2, .bool false, .slice (some ⟨b42, 0, none⟩) 0 0, .slice (some ⟨b51, 0, none⟩) 1 1]) rfl rfl (by kernel_rfl) (by kernel_rfl) (by kernel_rfl) rfl (l4Spread_false m A n c ps A2 n2 c2 vs (9 + (findL ps a)) (some ⟨b42, 0, none⟩) 0 0 ([]) (some ⟨b51, 0, none⟩) 1 1 ([findL ps a]) _ (Rd.kept ha (SG.belowR c40 s56 (fun kq e => by cases e))) (Rd.kept hb (SG.belowR c40 s56 (fun kq e => by cases e))) (by omega) (by omega) hp (by omega) (by omega) rd66 (own_fm ho61) rd72 (own_fm ho68) (FndQ.startP _ (by omega))) ?_
      rintro e w89 ⟨A74, n75, c76, A77, n78, c79, rfl, rd80, fm81, rd82, fm83, b88⟩
      have s90 := SG.of_below s56 b88
      refine ⟨_, rfl, s90, ?_⟩
      have rd91 := Rd.kept rd66 b88
      have rd92 := Rd.kept rd72 b88
      have hl86 := rd_ints_len rd80
      have hl87 := rd_ints_len rd82
      have := nodesL_len (linked ps (openQ vs false)) m.toNat (9 + (findL ps a)) true
      have := idxL_len (linked ps (openQ vs false)) ps.length (9 + (findL ps a)) true
      refine W.sq (v := .tuple #[.slice A74 n75 c76, .slice A77 n78 c79]) rfl (r_move rfl (by kernel_rfl)) (by kernel_rfl) rfl rfl ?_
      refine W.sq (v := .slice A74 n75 c76) rfl (r_extract (vs := #[.slice A74 n75 c76, .slice A77 n78 c79]) rfl (by kernel_rfl) (by kernel_rfl)) (by kernel_rfl) rfl rfl ?_
      refine W.sq (v := .slice A77 n78 c79) rfl (r_extract (vs := #[.slice A74 n75 c76, .slice A77 n78 c79]) rfl (by kernel_rfl) (by kernel_rfl)) (by kernel_rfl) rfl rfl ?_
      refine W.sq (v := .slice A74 n75 c76) rfl (r_assign rfl (by kernel_rfl)) (by kernel_rfl) rfl rfl ?_
      refine W.sq (v := .slice A77 n78 c79) rfl (r_assign rfl (by kernel_rfl)) (by kernel_rfl) rfl rfl ?_
      refine W.sch_endU (fun U93 => [.agg #[.int .i64 m, .slice A n c], .slice A2 n2 c2, .int .i64 a, .pointer (some ⟨b2, 0, none⟩), undef, undef, .slice none 0 0, .bool false, .slice (some ⟨b11, 0, none⟩) 0 0, .int .i64 (findL ps a), .slice A74 n75 c76, .slice A77 n78 c79, undef, undef, (U19 14), (U25 15), (U25 16), (U25 17), (U39 18), (U39 19), (U39 20), (U39 21), (U39 22), (U39 23), (U39 24), .bool false, undef, U93 27, U93 28, U93 29, U93 30, U93 31, U93 32, U93 33, U93 34, U93 35, undef, undef, undef, undef, undef, undef, undef, undef, undef, undef, undef, undef, undef, undef, undef, undef, undef, undef, undef, undef, undef, undef, undef]) (by kernel_rfl) (fun U93 => ?_)
      have x6 := SG.blk s90 x6 (by simp)
      have x15 := SG.blk s90 x15 (by simp)
      have c94 := (SG.belowR c40 s90 (fun kq e => by cases e))
      refine h7 _ _ ?_
      refine wp_seq_k (fun K8 h8 => ?_)
      refine W.region_plain (row := none) [(0, false), (1, false), (2, false), (3, false), (4, true), (5, false)] (by kernel_rfl) ?_
      have s95 := SG.self w89 none
      refine W.sq (v := .agg #[.int .i64 m, .slice A n c]) rfl (r_load2 rfl (by kernel_rfl) (by kernel_rfl) (by kernel_rfl) (sgS (blk_cell (j := 0) x6 (by kernel_rfl)) (by simp)) (sgS (blk_cell (j := 1) x6 (by kernel_rfl)) (by simp))) (by kernel_rfl) rfl rfl ?_
      refine W.sq (v := .slice A2 n2 c2) rfl (r_move rfl (by kernel_rfl)) (by kernel_rfl) rfl rfl ?_
      refine W.sq (v := .slice A74 n75 c76) rfl (r_move rfl (by kernel_rfl)) (by kernel_rfl) rfl rfl ?_
      refine W.sq (v := .slice A77 n78 c79) rfl (r_move rfl (by kernel_rfl)) (by kernel_rfl) rfl rfl ?_
      refine W.sc (vs := [.agg #[.int .i64 m, .slice A n c], .slice A2 n2 c2, .slice A74 n75 c76, .slice A77 n78 c79]) rfl rfl (by kernel_rfl) (by kernel_rfl) (by kernel_rfl) rfl (l4Around_any m A n c ps A2 n2 c2 vs a A74 n75 c76 A77 n78 c79 _ (Rd.kept ha (SG.belowR c94 s95 (fun kq e => by cases e))) (Rd.kept hb (SG.belowR c94 s95 (fun kq e => by cases e))) (by omega) (by omega) hv9 (by omega) (Rd.kept rd80 (SG.below s95)) (Rd.kept rd82 (SG.below s95))) ?_
      rintro e w105 ⟨A96, n97, c98, rfl, ho99, b104⟩
      have s106 := SG.of_below s95 b104
      refine ⟨_, rfl, s106, ?_⟩
      have rd100 := own_rd ho99
      have fm103 := own_fm ho99
      have hl101 := rd_ints_len rd100
      have sp107 := sp_freshB (g := b2) ho99 (Nat.lt_of_lt_of_le (blk_lt x6) (World.grownBy.size s95))
      have sp108 := sp_freshB (g := b11) ho99 (Nat.lt_of_lt_of_le (blk_lt x15) (World.grownBy.size s95))
      have := aroundI_len ps vs (9 + findL ps a) vs.length
      refine W.sq (v := .slice A96 n97 c98) rfl (r_assign rfl (by kernel_rfl)) (by kernel_rfl) rfl rfl ?_
      refine W.sch_endU (fun U109 => [.agg #[.int .i64 m, .slice A n c], .slice A2 n2 c2, .int .i64 a, .pointer (some ⟨b2, 0, none⟩), undef, undef, .slice none 0 0, .bool false, .slice (some ⟨b11, 0, none⟩) 0 0, .int .i64 (findL ps a), .slice A74 n75 c76, .slice A77 n78 c79, .slice A96 n97 c98, undef, (U19 14), (U25 15), (U25 16), (U25 17), (U39 18), (U39 19), (U39 20), (U39 21), (U39 22), (U39 23), (U39 24), .bool false, undef, (U93 27), (U93 28), (U93 29), (U93 30), (U93 31), (U93 32), (U93 33), (U93 34), (U93 35), U109 36, U109 37, U109 38, U109 39, U109 40, undef, undef, undef, undef, undef, undef, undef, undef, undef, undef, undef, undef, undef, undef, undef, undef, undef, undef]) (by kernel_rfl) (fun U109 => ?_)
      have x6 := SG.blk s106 x6 (by simp)
      have x15 := SG.blk s106 x15 (by simp)
      have c110 := (SG.belowR c94 s106 (fun kq e => by cases e))
      have rd111 := Rd.kept rd91 (SG.below s106)
      have rd112 := Rd.kept rd92 (SG.below s106)
      have rd113 := Rd.kept rd80 (SG.below s106)
      have rd114 := Rd.kept rd82 (SG.below s106)
      refine h8 _ _ ?_
      refine wp_seq_k (fun K9 h9 => ?_)
      refine wp_seq_k (fun K10 h10 => ?_)
      refine W.region_quiet [(0, false)] (by kernel_rfl) ?_
      refine W.sq (v := .int .i64 0) rfl (r_assign rfl (by kernel_rfl)) (by kernel_rfl) rfl rfl ?_
      refine W.sch_end (l' := [.agg #[.int .i64 m, .slice A n c], .slice A2 n2 c2, .int .i64 a, .pointer (some ⟨b2, 0, none⟩), undef, undef, .slice none 0 0, .bool false, .slice (some ⟨b11, 0, none⟩) 0 0, .int .i64 (findL ps a), .slice A74 n75 c76, .slice A77 n78 c79, .slice A96 n97 c98, .int .i64 0, (U19 14), (U25 15), (U25 16), (U25 17), (U39 18), (U39 19), (U39 20), (U39 21), (U39 22), (U39 23), (U39 24), .bool false, undef, (U93 27), (U93 28), (U93 29), (U93 30), (U93 31), (U93 32), (U93 33), (U93 34), (U93 35), (U109 36), (U109 37), (U109 38), (U109 39), (U109 40), undef, undef, undef, undef, undef, undef, undef, undef, undef, undef, undef, undef, undef, undef, undef, undef, undef, undef]) (by kernel_rfl) ?_
      refine h10 _ _ ?_
      refine wp_block ?_
      have ho115 := own_empty (base := w.heap.size) (size := 1) x15 lo17
      replace ho115 : World.ownsRow _ _ _ _ _ _ (intsV []) := ho115
      have sp116 := sp_own (n' := 0) (c := 0) sp108
      have nb117 : Nb b2 (.slice (some ⟨b11, 0, none⟩) 0 0) := nb_new (by have := ne18; omega)
      refine loopK (fun am0 aa0 wl0 => ∃ (i : Nat) (A0_8 : Option Addr) (n0_8 : Nat) (c0_8 : Nat) (U0 : Nat → Value), aa0 = ⟨[.agg #[.int .i64 m, .slice A n c], .slice A2 n2 c2, .int .i64 a, .pointer (some ⟨b2, 0, none⟩), undef, undef, .slice none 0 0, .bool false, .slice A0_8 n0_8 c0_8, .int .i64 (findL ps a), .slice A74 n75 c76, .slice A77 n78 c79, .slice A96 n97 c98, .int .i64 ((i : Nat) : Int), (U19 14), (U25 15), (U25 16), (U25 17), (U39 18), (U39 19), (U39 20), (U39 21), (U39 22), (U39 23), (U39 24), .bool false, undef, (U93 27), (U93 28), (U93 29), (U93 30), (U93 31), (U93 32), (U93 33), (U93 34), (U93 35), (U109 36), (U109 37), (U109 38), (U109 39), (U109 40), U0 41, U0 42, U0 43, U0 44, U0 45, U0 46, U0 47, U0 48, U0 49, U0 50, U0 51, U0 52, U0 53, U0 54, U0 55, U0 56, U0 57, undef].toArray, []⟩ ∧ (am0 = n97 - i) ∧ (i ≤ n97) ∧ (n0_8 ≤ i) ∧ (wl0.heap[b2]? = some (.cells #[.int .i64 m, .slice A n c] 31 (0, 0))) ∧ (wl0.ownsRow w.heap.size 3 1 (.slice A0_8 n0_8 c0_8) n0_8 (intsV (idsV vs ((aroundI ps vs (9 + findL ps a) vs.length).take i)))) ∧ (Nb b2 (.slice A0_8 n0_8 c0_8)) ∧ (Rd wl0 1 A96 n97 (intsV (aroundI ps vs (9 + findL ps a) vs.length))) ∧ (Sp A96 n97 (Value.ownBlock (.slice A0_8 n0_8 c0_8))) ∧ (Below w.heap.size w wl0)) (n97 - 0) ?_ ?_
      · exact ⟨0, (some ⟨b11, 0, none⟩), 0, 0, (fun iU9 => [.agg #[.int .i64 m, .slice A n c], .slice A2 n2 c2, .int .i64 a, .pointer (some ⟨b2, 0, none⟩), undef, undef, .slice none 0 0, .bool false, .slice (some ⟨b11, 0, none⟩) 0 0, .int .i64 (findL ps a), .slice A74 n75 c76, .slice A77 n78 c79, .slice A96 n97 c98, .int .i64 0, (U19 14), (U25 15), (U25 16), (U25 17), (U39 18), (U39 19), (U39 20), (U39 21), (U39 22), (U39 23), (U39 24), .bool false, undef, (U93 27), (U93 28), (U93 29), (U93 30), (U93 31), (U93 32), (U93 33), (U93 34), (U93 35), (U109 36), (U109 37), (U109 38), (U109 39), (U109 40), undef, undef, undef, undef, undef, undef, undef, undef, undef, undef, undef, undef, undef, undef, undef, undef, undef, undef].getD iU9 undef), (by kernel_rfl), rfl, (Nat.zero_le _), (Nat.zero_le _), x6, ho115, nb117, rd100, sp116, c110⟩
      rintro am0 aa0 wl0 K11 h11 ⟨i, A0_8, n0_8, c0_8, U0, rfl, rfl, hi, hb8, x6, ho0_8, nb0_8_b2, rd0_12, sp0_12_8, c118⟩
      refine wp_seq_k (fun K12 h12 => ?_)
      refine wp_seq_k (fun K13 h13 => ?_)
      refine W.region_quiet [(0, false), (1, false), (2, false), (3, false)] (by kernel_rfl) ?_
      refine W.sq (v := .int .i64 ((i : Nat) : Int)) rfl (r_move rfl (by kernel_rfl)) (by kernel_rfl) rfl rfl ?_
      refine W.sq (v := .slice A96 n97 c98) rfl (r_move rfl (by kernel_rfl)) (by kernel_rfl) rfl rfl ?_
      refine W.sq (v := .int .i64 ((n97 : Nat) : Int)) rfl (r_len (A := A96) (n := n97) (c := c98) rfl (by kernel_rfl) (by kernel_rfl)) (by kernel_rfl) rfl rfl ?_
      by_cases q119 : (((i : Nat) : Int) : Int) < (((n97 : Nat) : Int) : Int)
      · refine W.sq (v := .bool true) rfl (r_lss (m := ((i : Nat) : Int)) (n := ((n97 : Nat) : Int)) rfl (by kernel_rfl) (by kernel_rfl) (decide_eq_true q119)) (by kernel_rfl) rfl rfl ?_
        refine W.sch_endU (fun U120 => [.agg #[.int .i64 m, .slice A n c], .slice A2 n2 c2, .int .i64 a, .pointer (some ⟨b2, 0, none⟩), undef, undef, .slice none 0 0, .bool false, .slice A0_8 n0_8 c0_8, .int .i64 (findL ps a), .slice A74 n75 c76, .slice A77 n78 c79, .slice A96 n97 c98, .int .i64 ((i : Nat) : Int), (U19 14), (U25 15), (U25 16), (U25 17), (U39 18), (U39 19), (U39 20), (U39 21), (U39 22), (U39 23), (U39 24), .bool false, undef, (U93 27), (U93 28), (U93 29), (U93 30), (U93 31), (U93 32), (U93 33), (U93 34), (U93 35), (U109 36), (U109 37), (U109 38), (U109 39), (U109 40), U120 41, U120 42, U120 43, .bool true, (U0 45), (U0 46), (U0 47), (U0 48), (U0 49), (U0 50), (U0 51), (U0 52), (U0 53), (U0 54), (U0 55), (U0 56), (U0 57), undef]) (by kernel_rfl) (fun U120 => ?_)
        refine h13 _ _ ?_
        refine wp_cond_true (by kernel_rfl) ?_
        refine wp_skip ?_
        refine h12 _ _ ?_
        refine wp_seq_k (fun K14 h14 => ?_)
        refine wp_block ?_
        refine W.region_plain (row := (Value.ownBlock (.slice A0_8 n0_8 c0_8))) [(0, false), (1, false), (2, false), (3, false), (4, false), (5, false), (6, false), (7, false), (8, false), (9, true), (10, true), (11, false)] (by kernel_rfl) ?_
        have s121 := SG.self wl0 (Value.ownBlock (.slice A0_8 n0_8 c0_8))
        refine W.sq (v := .slice A0_8 n0_8 c0_8) rfl (r_move rfl (by kernel_rfl)) (by kernel_rfl) rfl rfl ?_
        refine W.sq (v := .slice A2 n2 c2) rfl (r_move rfl (by kernel_rfl)) (by kernel_rfl) rfl rfl ?_
        refine W.sq (v := .slice A96 n97 c98) rfl (r_move rfl (by kernel_rfl)) (by kernel_rfl) rfl rfl ?_
        refine W.sq (v := .int .i64 ((i : Nat) : Int)) rfl (r_move rfl (by kernel_rfl)) (by kernel_rfl) rfl rfl ?_
        obtain ⟨x122, hx123⟩ := get_of (zs := (aroundI ps vs (9 + findL ps a) vs.length)) (k := i) (by have := hl101; omega)
        obtain ⟨b124, o125, hA126, hb127, hc128⟩ := Rd.elInt rd0_12 hx123
        refine W.sq (v := .pointer (some ⟨b124, o125 + i, none⟩)) rfl (r_idx1 (n := n97) (c := c98) (k := i) rfl (by kernel_rfl) hA126 (by kernel_rfl) (by kernel_rfl) (by have := hl101; omega)) (by kernel_rfl) rfl rfl ?_
        refine W.sq (v := .int .i64 x122) rfl (r_load rfl (by kernel_rfl) (by kernel_rfl) (sgS hc128 (sp0_12_8 (by omega) _ _ hA126))) (by kernel_rfl) rfl rfl ?_
        have hy9 := aroundI_in (List.mem_of_getElem? hx123)
        obtain ⟨x129, hx130⟩ := get_of (zs := vs) (k := x122.toNat) (by have := hl2; omega)
        obtain ⟨b131, o132, hA133, hb134, hc135, hc136, hc137, hc138⟩ := Rd.elValve hb hx130
        refine W.sq (v := .pointer (some ⟨b131, o132 + x122.toNat * 4, none⟩)) rfl (r_idx (n := n2) (c := c2) (k := x122.toNat) rfl (by kernel_rfl) hA133 (evk (z := x122) (by kernel_rfl) (by omega)) (by kernel_rfl) (by have := hl2; omega)) (by kernel_rfl) rfl rfl ?_
        refine W.sq (v := .pointer (some ⟨b131, o132 + x122.toNat * 4, none⟩)) rfl (r_field0 rfl (by kernel_rfl) (by kernel_rfl)) (by kernel_rfl) rfl rfl ?_
        refine W.sq (v := .int .i64 x129.id) rfl (r_load rfl (by kernel_rfl) (by kernel_rfl) (sgS (later c118 hc135) (nb_lo ho0_8 hb134))) (by kernel_rfl) rfl rfl ?_
        refine W.sn (fun b => .slice (some ⟨b, 0, none⟩) 1 1) #[.int .i64 x129.id] 3 s121 rfl (by kernel_rfl) rfl (fun _ => by kernel_rfl) (fun b139 w140 hb141 k142 x143 s144 => ?_)
        have lo145 : w.heap.size ≤ b139 := by have := ((SG.belowR c118 s121 (fun kq e => (World.ownsRow.lt ho0_8 kq e).1))).size; omega
        have sp146 : Sp A96 n97 (some b139) := sp_new rd0_12 (by have := World.grownBy.size s121; have := hb141; omega)
        have ne147 : b2 ≠ b139 := by have := blk_lt x6; have := World.grownBy.size s121; omega
        have nb148 : Nb b139 (.slice A0_8 n0_8 c0_8) := nb_hi ho0_8 (Nat.le_of_eq hb141)
        have ho149 := own_kept ho0_8 k142
        refine W.sap (e := 3) (size := 1) (base := w.heap.size) (m := 1) (v := .slice A0_8 n0_8 c0_8) (c := 1) s144 rfl rfl rfl rfl (by kernel_rfl) (by kernel_rfl) (by kernel_rfl) ho149 x143 (by kernel_rfl) (by kernel_rfl) (by omega) (by omega) (by have := ((SG.belowR c118 s144 (fun kq e => (World.ownsRow.lt ho0_8 kq e).1))).size; omega) (.inl rfl) (fun g150 cap151 w152 ho153 hg154 hat155 hlt156 s157 => ?_)
        have nb158 : Nb b2 (.slice (some ⟨g150, 0, none⟩) (n0_8 + 1) cap151) := nb_app nb0_8_b2 (Nat.lt_of_lt_of_le (blk_lt x6) (World.grownBy.size s144)) hat155
        have nb159 : Nb b139 (.slice (some ⟨g150, 0, none⟩) (n0_8 + 1) cap151) := nb_app nb148 (blk_lt x143) hat155
        have x143 := (hg154.block _ (blk_lt x143) nb148).trans x143
        have ho153 := own_snoc ho153
        have sp160 := sp_app (v' := .slice (some ⟨g150, 0, none⟩) (n0_8 + 1) cap151) sp0_12_8 rd0_12 (World.grownBy.size s144) (hat3 (v := .slice A0_8 n0_8 c0_8) hat155)
        refine W.sq (v := .slice (some ⟨g150, 0, none⟩) (n0_8 + 1) cap151) rfl (r_assign rfl (by kernel_rfl)) (by kernel_rfl) rfl rfl ?_
        refine W.sch_endU (fun U161 => [.agg #[.int .i64 m, .slice A n c], .slice A2 n2 c2, .int .i64 a, .pointer (some ⟨b2, 0, none⟩), undef, undef, .slice none 0 0, .bool false, .slice (some ⟨g150, 0, none⟩) (n0_8 + 1) cap151, .int .i64 (findL ps a), .slice A74 n75 c76, .slice A77 n78 c79, .slice A96 n97 c98, .int .i64 ((i : Nat) : Int), (U19 14), (U25 15), (U25 16), (U25 17), (U39 18), (U39 19), (U39 20), (U39 21), (U39 22), (U39 23), (U39 24), .bool false, undef, (U93 27), (U93 28), (U93 29), (U93 30), (U93 31), (U93 32), (U93 33), (U93 34), (U93 35), (U109 36), (U109 37), (U109 38), (U109 39), (U109 40), (U120 41), (U120 42), (U120 43), .bool true, (U0 45), (U0 46), U161 47, U161 48, U161 49, U161 50, U161 51, U161 52, U161 53, U161 54, U161 55, U161 56, U161 57, undef]) (by kernel_rfl) (fun U161 => ?_)
        have x6 := SG.blk s157 x6 nb0_8_b2
        have c162 := (SG.belowR c118 s157 (fun kq e => (World.ownsRow.lt ho0_8 kq e).1))
        have rd163 := rd_sep rd0_12 s157 sp0_12_8
        refine h14 _ _ ?_
        refine W.region_quiet [(0, false), (1, false), (2, false)] (by kernel_rfl) ?_
        refine W.sq (v := .int .i64 ((i : Nat) : Int)) rfl (r_move rfl (by kernel_rfl)) (by kernel_rfl) rfl rfl ?_
        refine W.sq (v := .int .i64 ((i + 1 : Nat) : Int)) rfl (r_add (m := ((i : Nat) : Int)) (n := 1) (z := ((i + 1 : Nat) : Int)) rfl (by kernel_rfl) (by kernel_rfl) (by omega) (by omega)) (by kernel_rfl) rfl rfl ?_
        refine W.sq (v := .int .i64 ((i + 1 : Nat) : Int)) rfl (r_assign rfl (by kernel_rfl)) (by kernel_rfl) rfl rfl ?_
        refine W.sch_endU (fun U164 => [.agg #[.int .i64 m, .slice A n c], .slice A2 n2 c2, .int .i64 a, .pointer (some ⟨b2, 0, none⟩), undef, undef, .slice none 0 0, .bool false, .slice (some ⟨g150, 0, none⟩) (n0_8 + 1) cap151, .int .i64 (findL ps a), .slice A74 n75 c76, .slice A77 n78 c79, .slice A96 n97 c98, .int .i64 ((i + 1 : Nat) : Int), (U19 14), (U25 15), (U25 16), (U25 17), (U39 18), (U39 19), (U39 20), (U39 21), (U39 22), (U39 23), (U39 24), .bool false, undef, (U93 27), (U93 28), (U93 29), (U93 30), (U93 31), (U93 32), (U93 33), (U93 34), (U93 35), (U109 36), (U109 37), (U109 38), (U109 39), (U109 40), (U120 41), (U120 42), (U120 43), .bool true, U164 45, U164 46, (U161 47), (U161 48), (U161 49), (U161 50), (U161 51), (U161 52), (U161 53), (U161 54), (U161 55), (U161 56), (U161 57), undef]) (by kernel_rfl) (fun U164 => ?_)
        exact h11 _ _ _ (by omega : (n97 - (i + 1)) < _) ⟨i + 1, (some ⟨g150, 0, none⟩), (n0_8 + 1), cap151, (fun iU9 => [.agg #[.int .i64 m, .slice A n c], .slice A2 n2 c2, .int .i64 a, .pointer (some ⟨b2, 0, none⟩), undef, undef, .slice none 0 0, .bool false, .slice (some ⟨g150, 0, none⟩) (n0_8 + 1) cap151, .int .i64 (findL ps a), .slice A74 n75 c76, .slice A77 n78 c79, .slice A96 n97 c98, .int .i64 ((i + 1 : Nat) : Int), (U19 14), (U25 15), (U25 16), (U25 17), (U39 18), (U39 19), (U39 20), (U39 21), (U39 22), (U39 23), (U39 24), .bool false, undef, (U93 27), (U93 28), (U93 29), (U93 30), (U93 31), (U93 32), (U93 33), (U93 34), (U93 35), (U109 36), (U109 37), (U109 38), (U109 39), (U109 40), (U120 41), (U120 42), (U120 43), .bool true, (U164 45), (U164 46), (U161 47), (U161 48), (U161 49), (U161 50), (U161 51), (U161 52), (U161 53), (U161 54), (U161 55), (U161 56), (U161 57), undef].getD iU9 undef), (by kernel_rfl), rfl, (by omega), (by omega), x6, (by rw [idsV_take hx123 hx130]; exact ho153), nb158, rd163, sp160, c162⟩
      · refine W.sq (v := .bool false) rfl (r_lss (m := ((i : Nat) : Int)) (n := ((n97 : Nat) : Int)) rfl (by kernel_rfl) (by kernel_rfl) (decide_eq_false q119)) (by kernel_rfl) rfl rfl ?_
        refine W.sch_endU (fun U165 => [.agg #[.int .i64 m, .slice A n c], .slice A2 n2 c2, .int .i64 a, .pointer (some ⟨b2, 0, none⟩), undef, undef, .slice none 0 0, .bool false, .slice A0_8 n0_8 c0_8, .int .i64 (findL ps a), .slice A74 n75 c76, .slice A77 n78 c79, .slice A96 n97 c98, .int .i64 ((i : Nat) : Int), (U19 14), (U25 15), (U25 16), (U25 17), (U39 18), (U39 19), (U39 20), (U39 21), (U39 22), (U39 23), (U39 24), .bool false, undef, (U93 27), (U93 28), (U93 29), (U93 30), (U93 31), (U93 32), (U93 33), (U93 34), (U93 35), (U109 36), (U109 37), (U109 38), (U109 39), (U109 40), U165 41, U165 42, U165 43, .bool false, (U0 45), (U0 46), (U0 47), (U0 48), (U0 49), (U0 50), (U0 51), (U0 52), (U0 53), (U0 54), (U0 55), (U0 56), (U0 57), undef]) (by kernel_rfl) (fun U165 => ?_)
        refine h13 _ _ ?_
        refine wp_cond_false (by kernel_rfl) ?_
        refine wp_exit ?_
        refine h9 _ _ ?_
        refine wp_seq_k (fun K15 h15 => ?_)
        refine W.region_quiet [(0, false), (1, false), (2, false)] (by kernel_rfl) ?_
        refine W.sq (v := .slice A0_8 n0_8 c0_8) rfl (r_move rfl (by kernel_rfl)) (by kernel_rfl) rfl rfl ?_
        refine W.sq (v := .slice A0_8 n0_8 c0_8) rfl (r_assign rfl (by kernel_rfl)) (by kernel_rfl) rfl rfl ?_
        refine W.sq (v := .bool true) rfl (r_assign rfl (by kernel_rfl)) (by kernel_rfl) rfl rfl ?_
        refine W.sch_endU (fun U166 => [.agg #[.int .i64 m, .slice A n c], .slice A2 n2 c2, .int .i64 a, .pointer (some ⟨b2, 0, none⟩), undef, undef, .slice A0_8 n0_8 c0_8, .bool true, .slice A0_8 n0_8 c0_8, .int .i64 (findL ps a), .slice A74 n75 c76, .slice A77 n78 c79, .slice A96 n97 c98, .int .i64 ((i : Nat) : Int), (U19 14), (U25 15), (U25 16), (U25 17), (U39 18), (U39 19), (U39 20), (U39 21), (U39 22), (U39 23), (U39 24), .bool false, undef, (U93 27), (U93 28), (U93 29), (U93 30), (U93 31), (U93 32), (U93 33), (U93 34), (U93 35), (U109 36), (U109 37), (U109 38), (U109 39), (U109 40), (U165 41), (U165 42), (U165 43), .bool false, (U0 45), (U0 46), (U0 47), (U0 48), (U0 49), (U0 50), (U0 51), (U0 52), (U0 53), (U0 54), (U0 55), (U0 56), (U0 57), U166 58]) (by kernel_rfl) (fun U166 => ?_)
        refine h15 _ _ ?_
        refine wp_ret ?_
        try simp only [Exit.then]
        refine ret2 (v := .slice A0_8 n0_8 c0_8) (x := .bool true) rfl (by kernel_rfl) (by kernel_rfl) ?_
        have ok167 : ValvesAround_v1 m ps vs a = true := by unfold ValvesAround_v1; rw [q31, decide_eq_true (by omega)]; rfl
        exact fin_rd  (own_rd ho0_8) (by unfold ValvesAround_v0; rw [if_pos ok167, List.take_of_length_le (by omega)]) ok167.symm c118
  · rw [q31]
    refine W.sq (v := .bool true) rfl (r_not (b := false) rfl (by kernel_rfl) rfl) (by kernel_rfl) rfl rfl ?_
    refine W.sq (v := .bool true) rfl (r_move rfl (by kernel_rfl)) (by kernel_rfl) rfl rfl ?_
    refine W.sk s30 rfl (by kernel_rfl) rfl rfl ?_
    refine W.sk s30 rfl (by kernel_rfl) rfl rfl ?_
    refine W.sq (v := .bool true) rfl (r_pick (b := true) rfl (by kernel_rfl) (by kernel_rfl)) (by kernel_rfl) rfl rfl ?_
    refine W.sch_endU (fun U168 => [.agg #[.int .i64 m, .slice A n c], .slice A2 n2 c2, .int .i64 a, .pointer (some ⟨b2, 0, none⟩), undef, undef, .slice none 0 0, .bool false, .slice (some ⟨b11, 0, none⟩) 0 0, .int .i64 (findL ps a), undef, undef, undef, undef, (U19 14), (U25 15), (U25 16), (U25 17), U168 18, U168 19, U168 20, U168 21, U168 22, undef, undef, .bool true, undef, undef, undef, undef, undef, undef, undef, undef, undef, undef, undef, undef, undef, undef, undef, undef, undef, undef, undef, undef, undef, undef, undef, undef, undef, undef, undef, undef, undef, undef, undef, undef, undef]) (by kernel_rfl) (fun U168 => ?_)
    have x6 := SG.blk s30 x6 (by simp)
    have x15 := SG.blk s30 x15 (by simp)
    have c169 := (SG.belowR c26 s30 (fun kq e => by cases e))
    refine h5 _ _ ?_
    refine wp_cond_true (by kernel_rfl) ?_
    refine wp_seq_k (fun K16 h16 => ?_)
    refine W.region_quiet [(0, false), (1, false), (2, false)] (by kernel_rfl) ?_
    refine W.sq (v := .slice (some ⟨b11, 0, none⟩) 0 0) rfl (r_move rfl (by kernel_rfl)) (by kernel_rfl) rfl rfl ?_
    refine W.sq (v := .slice (some ⟨b11, 0, none⟩) 0 0) rfl (r_assign rfl (by kernel_rfl)) (by kernel_rfl) rfl rfl ?_
    refine W.sq (v := .bool false) rfl (r_assign rfl (by kernel_rfl)) (by kernel_rfl) rfl rfl ?_
    refine W.sch_endU (fun U170 => [.agg #[.int .i64 m, .slice A n c], .slice A2 n2 c2, .int .i64 a, .pointer (some ⟨b2, 0, none⟩), undef, undef, .slice (some ⟨b11, 0, none⟩) 0 0, .bool false, .slice (some ⟨b11, 0, none⟩) 0 0, .int .i64 (findL ps a), undef, undef, undef, undef, (U19 14), (U25 15), (U25 16), (U25 17), (U168 18), (U168 19), (U168 20), (U168 21), (U168 22), undef, undef, .bool true, U170 26, undef, undef, undef, undef, undef, undef, undef, undef, undef, undef, undef, undef, undef, undef, undef, undef, undef, undef, undef, undef, undef, undef, undef, undef, undef, undef, undef, undef, undef, undef, undef, undef]) (by kernel_rfl) (fun U170 => ?_)
    refine h16 _ _ ?_
    refine wp_ret ?_
    try simp only [Exit.then]
    refine ret2 (v := .slice (some ⟨b11, 0, none⟩) 0 0) (x := .bool false) rfl (by kernel_rfl) (by kernel_rfl) ?_
    have ok171 : ValvesAround_v1 m ps vs a = false := by unfold ValvesAround_v1; rw [q31]; rfl
    have ho172 := own_empty (base := w.heap.size) (size := 1) x15 lo17
    replace ho172 : World.ownsRow _ _ _ _ _ _ (intsV []) := ho172
    have nb173 : Nb b2 (.slice (some ⟨b11, 0, none⟩) 0 0) := nb_new (by have := ne18; omega)
    exact fin_rd (zs := []) (own_rd ho172) (by unfold ValvesAround_v0; rw [if_neg (by rw [ok171]; simp)]) ok171.symm c169

end Go.Proofs.Ythdmbndndfiidaa
