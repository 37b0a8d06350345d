/- Needless valves: both packages answer alike. -/
import Derived.Test.YthdmbndndfiidaaVSeg
namespace Go.Proofs.Ythdmbndndfiidaa
open Go.RowKit
set_option linter.unusedVariables false
set_option linter.unusedSimpArgs false

/-- The valves whose node and pipe are connected without them. -/
noncomputable def needL (ps : List Pp) (vs us : List Vv) : List Int := (us.filter (fun v => rb (linked ps (openQ vs false)) v.node (9 + findL ps v.pipe))).map (fun v => v.id)
theorem needL_len (ps : List Pp) (vs us : List Vv) : (needL ps vs us).length ≤ us.length := by
  unfold needL; rw [List.length_map]; exact List.length_filter_le _ _
theorem needL_yes {ps : List Pp} {vs us : List Vv} {i : Nat} {x : Vv} (hx : us[i]? = some x) (h : rb (linked ps (openQ vs false)) x.node (9 + findL ps x.pipe) = true) : needL ps vs (us.take (i + 1)) = needL ps vs (us.take i) ++ [x.id] := by
  unfold needL; rw [List.take_add_one, hx, List.filter_append, List.map_append]; simp [h]
theorem needL_no {ps : List Pp} {vs us : List Vv} {i : Nat} {x : Vv} (hx : us[i]? = some x) (h : rb (linked ps (openQ vs false)) x.node (9 + findL ps x.pipe) = false) : needL ps vs (us.take (i + 1)) = needL ps vs (us.take i) := by
  unfold needL; rw [List.take_add_one, hx, List.filter_append, List.map_append]; simp [h]
theorem wet_eqI {E : Int → Int → Prop} {a b : Int} {k : Nat} {x : Bool} (hx : (wetL E a)[k]? = some x) (e : b = (k : Int)) : x = rb E a b := by rw [e]; exact wet_eq hx
noncomputable def NeedlessValves_v0 (m : Int) (ps : List Pp) (vs : List Vv) : List Int := if goodV m ps vs = true then needL ps vs vs else []
def NeedlessValves_v1 (m : Int) (ps : List Pp) (vs : List Vv) : Bool := goodV m ps vs
theorem NeedlessValves_len (m : Int) (ps : List Pp) (vs : List Vv) : (NeedlessValves_v0 m ps vs).length ≤ 1048576 := by
  unfold NeedlessValves_v0
  split
  · rename_i h
    have := needL_len ps vs vs
    have := (goodV_of h).len
    omega
  · simp

set_option maxRecDepth 100000 in
set_option maxHeartbeats 1000000 in
theorem NeedlessValves_impl (m : Int) (A : Option Addr) (n c : Nat) (ps : List Pp) (A2 : Option Addr) (n2 c2 : Nat) (vs : List Vv) (w : World) (ha : Rd w 4 A n (pipesV ps)) (hb : Rd w 4 A2 n2 (valvesV vs)) (hn : n ≤ 1048576) (hn2 : n2 ≤ 1048576) (hfm : Fm A n c) (hfm2 : Fm A2 n2 c2) :
    Calls Try.prog 43 #[.agg #[.int .i64 m, .slice A n c], .slice A2 n2 c2] w fun e w' => ∃ A' d, e = .returned (.tuple #[.slice A' (NeedlessValves_v0 m ps vs).length d, .bool (NeedlessValves_v1 m ps vs)]) ∧ w'.ownsRow w.heap.size 3 1 (.slice A' (NeedlessValves_v0 m ps vs).length d) (NeedlessValves_v0 m ps vs).length (intsV (NeedlessValves_v0 m ps vs)) ∧ Below w.heap.size w w' := by
  have hl := rd_pipes_len ha
  have hl2 := rd_valves_len hb
  go_enter Try.func43, Try.ntmps43
  refine wp_seq_k (fun K1 h1 => ?_)
  refine W.region_plain (row := none) [(0, true), (1, false), (2, false)] (by kernel_rfl) ?_
  have s1 := SG.self w none
  refine W.sn (fun b => .pointer (some ⟨b, 0, none⟩)) #[.int .i64 m, .slice A n c] 31 s1 rfl (by kernel_rfl) rfl (fun _ => by kernel_rfl) (fun b2 w3 hb4 k5 x6 s7 => ?_)
  have lo8 : w.heap.size ≤ b2 := by have := ((SG.belowR (Below.refl _ _) s1 (fun kq e => by cases e))).size; omega
  refine W.sq (v := .slice none 0 0) rfl (r_assign rfl (by kernel_rfl)) (by kernel_rfl) rfl rfl ?_
  refine W.sq (v := .bool false) rfl (r_assign rfl (by kernel_rfl)) (by kernel_rfl) rfl rfl ?_
  refine W.sch_end (l' := [.agg #[.int .i64 m, .slice A n c], .slice A2 n2 c2, .pointer (some ⟨b2, 0, none⟩), undef, .slice none 0 0, .bool false, undef, undef, undef, undef, undef, undef, undef, undef, undef, undef, undef, undef, undef, undef, undef, undef, undef, undef, undef, undef, undef, undef, undef, undef, undef, undef, undef, undef, undef, undef, undef, undef, undef, undef]) (by kernel_rfl) ?_
  have c9 := (SG.belowR (Below.refl _ _) s7 (fun kq e => by cases e))
  refine h1 _ _ ?_
  refine wp_seq_k (fun K2 h2 => ?_)
  refine wp_seq_k (fun K3 h3 => ?_)
  refine W.region_plain (row := none) [(0, false), (1, false), (2, true), (3, false)] (by kernel_rfl) ?_
  have s10 := SG.self w3 none
  refine W.sq (v := .agg #[.int .i64 m, .slice A n c]) rfl (r_load2 rfl (by kernel_rfl) (by kernel_rfl) (by kernel_rfl) (sgS (blk_cell (j := 0) x6 (by kernel_rfl)) (by simp)) (sgS (blk_cell (j := 1) x6 (by kernel_rfl)) (by simp))) (by kernel_rfl) rfl rfl ?_
  refine W.sq (v := .slice A2 n2 c2) rfl (r_move rfl (by kernel_rfl)) (by kernel_rfl) rfl rfl ?_
  refine W.sc (vs := [.agg #[.int .i64 m, .slice A n c], .slice A2 n2 c2]) rfl rfl (by kernel_rfl) (by kernel_rfl) (by kernel_rfl) rfl (IsValidValves_any m A n c ps A2 n2 c2 vs _ (Rd.kept ha (SG.belowR c9 s10 (fun kq e => by cases e))) (Rd.kept hb (SG.belowR c9 s10 (fun kq e => by cases e))) (by omega) (by omega) hfm2) ?_
  rintro e w12 ⟨rfl, b11⟩
  have s13 := SG.of_below s10 b11
  refine ⟨_, rfl, s13, ?_⟩
  rcases Bool.eq_false_or_eq_true (goodV m ps vs) with q14 | q14
  · rw [q14]
    have hv9 := goodV_of q14
    have hg := hv9.net
    have hgl := hg.lo
    have hgh := hg.hi
    have hp := hg.pipesIn
    have hlen10 := hg.len
    have hu := hv9.uniq
    have hvl := hv9.len
    refine W.sq (v := .bool false) rfl (r_not (b := true) rfl (by kernel_rfl) rfl) (by kernel_rfl) rfl rfl ?_
    refine W.sch_endU (fun U15 => [.agg #[.int .i64 m, .slice A n c], .slice A2 n2 c2, .pointer (some ⟨b2, 0, none⟩), undef, .slice none 0 0, .bool false, undef, undef, undef, U15 9, U15 10, U15 11, .bool false, undef, undef, undef, undef, undef, undef, undef, undef, undef, undef, undef, undef, undef, undef, undef, undef, undef, undef, undef, undef, undef, undef, undef, undef, undef, undef, undef]) (by kernel_rfl) (fun U15 => ?_)
    have x6 := SG.blk s13 x6 (by simp)
    have c16 := (SG.belowR c9 s13 (fun kq e => by cases e))
    refine h3 _ _ ?_
    refine wp_cond_false (by kernel_rfl) ?_
    refine wp_skip ?_
    refine h2 _ _ ?_
    refine wp_seq_k (fun K4 h4 => ?_)
    refine W.region_plain (row := none) [(0, true), (1, false)] (by kernel_rfl) ?_
    have s17 := SG.self w12 none
    refine W.sn (fun b => .slice (some ⟨b, 0, none⟩) 0 0) #[] 3 s17 rfl (by kernel_rfl) rfl (fun _ => by kernel_rfl) (fun b18 w19 hb20 k21 x22 s23 => ?_)
    have lo24 : w.heap.size ≤ b18 := by have := ((SG.belowR c16 s17 (fun kq e => by cases e))).size; omega
    have ne25 : b2 ≠ b18 := by have := blk_lt x6; have := World.grownBy.size s17; omega
    refine W.sq (v := .slice (some ⟨b18, 0, none⟩) 0 0) rfl (r_assign rfl (by kernel_rfl)) (by kernel_rfl) rfl rfl ?_
    refine W.sch_endU (fun U26 => [.agg #[.int .i64 m, .slice A n c], .slice A2 n2 c2, .pointer (some ⟨b2, 0, none⟩), undef, .slice none 0 0, .bool false, .slice (some ⟨b18, 0, none⟩) 0 0, undef, undef, (U15 9), (U15 10), (U15 11), .bool false, U26 13, undef, undef, undef, undef, undef, undef, undef, undef, undef, undef, undef, undef, undef, undef, undef, undef, undef, undef, undef, undef, undef, undef, undef, undef, undef, undef]) (by kernel_rfl) (fun U26 => ?_)
    have x6 := SG.blk s23 x6 (by simp)
    have c27 := (SG.belowR c16 s23 (fun kq e => by cases e))
    refine h4 _ _ ?_
    refine wp_seq_k (fun K5 h5 => ?_)
    refine wp_seq_k (fun K6 h6 => ?_)
    refine W.region_quiet [(0, false), (1, false), (2, false)] (by kernel_rfl) ?_
    refine W.sq (v := .slice A2 n2 c2) rfl (r_move rfl (by kernel_rfl)) (by kernel_rfl) rfl rfl ?_
    refine W.sq (v := .int .i64 ((n2 : Nat) : Int)) rfl (r_len (A := A2) (n := n2) (c := c2) rfl (by kernel_rfl) (by kernel_rfl)) (by kernel_rfl) rfl rfl ?_
    refine W.sq (v := .int .i64 0) rfl (r_move rfl (by kernel_rfl)) (by kernel_rfl) rfl rfl ?_
    refine W.sch_end (l' := [.agg #[.int .i64 m, .slice A n c], .slice A2 n2 c2, .pointer (some ⟨b2, 0, none⟩), undef, .slice none 0 0, .bool false, .slice (some ⟨b18, 0, none⟩) 0 0, undef, undef, (U15 9), (U15 10), (U15 11), .bool false, (U26 13), .slice A2 n2 c2, .int .i64 ((n2 : Nat) : Int), .int .i64 0, undef, undef, undef, undef, undef, undef, undef, undef, undef, undef, undef, undef, undef, undef, undef, undef, undef, undef, undef, undef, undef, undef, undef]) (by kernel_rfl) ?_
    refine h6 _ _ ?_
    refine wp_block ?_
    have ho28 := own_empty (base := w.heap.size) (size := 1) x22 lo24
    replace ho28 : World.ownsRow _ _ _ _ _ _ (intsV []) := ho28
    have nb29 : Nb b2 (.slice (some ⟨b18, 0, none⟩) 0 0) := nb_new (by have := ne25; omega)
    refine loopK (fun am0 aa0 wl0 => ∃ (i : Nat) (A0_6 : Option Addr) (n0_6 : Nat) (c0_6 : Nat) (U0 : Nat → Value), aa0 = ⟨[.agg #[.int .i64 m, .slice A n c], .slice A2 n2 c2, .pointer (some ⟨b2, 0, none⟩), undef, .slice none 0 0, .bool false, .slice A0_6 n0_6 c0_6, undef, U0 8, (U15 9), (U15 10), (U15 11), .bool false, (U26 13), .slice A2 n2 c2, .int .i64 ((n2 : Nat) : Int), .int .i64 ((i : Nat) : Int), U0 17, U0 18, U0 19, U0 20, U0 21, U0 22, U0 23, U0 24, U0 25, U0 26, U0 27, U0 28, U0 29, U0 30, U0 31, U0 32, U0 33, U0 34, U0 35, U0 36, U0 37, U0 38, undef].toArray, []⟩ ∧ (am0 = n2 - i) ∧ (i ≤ n2) ∧ (n0_6 ≤ i) ∧ (wl0.heap[b2]? = some (.cells #[.int .i64 m, .slice A n c] 31 (0, 0))) ∧ (wl0.ownsRow w.heap.size 3 1 (.slice A0_6 n0_6 c0_6) n0_6 (intsV (needL ps vs (vs.take i)))) ∧ (Nb b2 (.slice A0_6 n0_6 c0_6)) ∧ (Below w.heap.size w wl0)) (n2 - 0) ?_ ?_
    · exact ⟨0, (some ⟨b18, 0, none⟩), 0, 0, (fun iU9 => [.agg #[.int .i64 m, .slice A n c], .slice A2 n2 c2, .pointer (some ⟨b2, 0, none⟩), undef, .slice none 0 0, .bool false, .slice (some ⟨b18, 0, none⟩) 0 0, undef, undef, (U15 9), (U15 10), (U15 11), .bool false, (U26 13), .slice A2 n2 c2, .int .i64 ((n2 : Nat) : Int), .int .i64 0, undef, undef, undef, undef, undef, undef, undef, undef, undef, undef, undef, undef, undef, undef, undef, undef, undef, undef, undef, undef, undef, undef, undef].getD iU9 undef), (by kernel_rfl), rfl, (Nat.zero_le _), (Nat.zero_le _), x6, ho28, nb29, c27⟩
    rintro am0 aa0 wl0 K7 h7 ⟨i, A0_6, n0_6, c0_6, U0, rfl, rfl, hi, hb6, x6, ho0_6, nb0_6_b2, c30⟩
    refine wp_seq_k (fun K8 h8 => ?_)
    refine W.region_quiet [(0, false)] (by kernel_rfl) ?_
    by_cases q31 : (((i : Nat) : Int) : Int) < (((n2 : Nat) : Int) : Int)
    · refine W.sq (v := .bool true) rfl (r_lss (m := ((i : Nat) : Int)) (n := ((n2 : Nat) : Int)) rfl (by kernel_rfl) (by kernel_rfl) (decide_eq_true q31)) (by kernel_rfl) rfl rfl ?_
      refine W.sch_end (l' := [.agg #[.int .i64 m, .slice A n c], .slice A2 n2 c2, .pointer (some ⟨b2, 0, none⟩), undef, .slice none 0 0, .bool false, .slice A0_6 n0_6 c0_6, undef, (U0 8), (U15 9), (U15 10), (U15 11), .bool false, (U26 13), .slice A2 n2 c2, .int .i64 ((n2 : Nat) : Int), .int .i64 ((i : Nat) : Int), .bool true, (U0 18), (U0 19), (U0 20), (U0 21), (U0 22), (U0 23), (U0 24), (U0 25), (U0 26), (U0 27), (U0 28), (U0 29), (U0 30), (U0 31), (U0 32), (U0 33), (U0 34), (U0 35), (U0 36), (U0 37), (U0 38), undef]) (by kernel_rfl) ?_
      refine h8 _ _ ?_
      refine wp_seq_k (fun K9 h9 => ?_)
      refine wp_cond_true (by kernel_rfl) ?_
      refine wp_skip ?_
      refine h9 _ _ ?_
      refine wp_seq_k (fun K10 h10 => ?_)
      refine wp_block ?_
      refine wp_seq_k (fun K11 h11 => ?_)
      refine W.region_plain (row := none) [(0, false), (1, false), (2, true), (3, true)] (by kernel_rfl) ?_
      have s32 := SG.self wl0 none
      obtain ⟨x33, hx34⟩ := get_of (zs := vs) (k := i) (by have := hl2; omega)
      obtain ⟨b35, o36, hA37, hb38, hc39, hc40, hc41, hc42⟩ := Rd.elValve hb hx34
      refine W.sq (v := .pointer (some ⟨b35, o36 + i * 4, none⟩)) rfl (r_idx (n := n2) (c := c2) (k := i) rfl (by kernel_rfl) hA37 (by kernel_rfl) (by kernel_rfl) (by have := hl2; omega)) (by kernel_rfl) rfl rfl ?_
      refine W.sq (v := .agg #[.int .i64 x33.id, .int .i64 x33.pipe, .int .i64 x33.node, .bool x33.shut]) rfl (r_load4 rfl (by kernel_rfl) (by kernel_rfl) (by kernel_rfl) (sgS (later c30 hc39) (by simp)) (sgS (later c30 hc40) (by simp)) (sgS (later c30 hc41) (by simp)) (sgS (later c30 hc42) (by simp))) (by kernel_rfl) rfl rfl ?_
      refine W.sn (fun b => .pointer (some ⟨b, 0, none⟩)) #[.int .i64 0, .int .i64 0, .int .i64 0, .bool false] 59 s32 rfl (by kernel_rfl) rfl (fun _ => by kernel_rfl) (fun b43 w44 hb45 k46 x47 s48 => ?_)
      have lo49 : w.heap.size ≤ b43 := by have := ((SG.belowR c30 s32 (fun kq e => by cases e))).size; omega
      have ne50 : b2 ≠ b43 := by have := blk_lt x6; have := World.grownBy.size s32; omega
      have nb51 : Nb b43 (.slice A0_6 n0_6 c0_6) := nb_hi ho0_6 (Nat.le_of_eq hb45)
      have ho52 := own_kept ho0_6 k46
      refine W.ss (v := .agg #[.int .i64 x33.id, .int .i64 x33.pipe, .int .i64 x33.node, .bool x33.shut]) (j := 0) (news := [.int .i64 x33.id, .int .i64 x33.pipe, .int .i64 x33.node, .bool x33.shut]) (cs' := #[.int .i64 x33.id, .int .i64 x33.pipe, .int .i64 x33.node, .bool x33.shut]) s48 rfl (by kernel_rfl) rfl rfl (by kernel_rfl) (by kernel_rfl) x47 (by kernel_rfl) (by kernel_rfl) (by simp) (by kernel_rfl) (by kernel_rfl) (.inr (by have := World.grownBy.size s32; have := hb45; omega)) (fun w53 g54 x55 s56 => ?_)
      have ho57 := own_grown ho52 g54 (fun j e1 e2 => by cases e2; exact nb51 e1.symm)
      refine W.sch_endU (fun U58 => [.agg #[.int .i64 m, .slice A n c], .slice A2 n2 c2, .pointer (some ⟨b2, 0, none⟩), undef, .slice none 0 0, .bool false, .slice A0_6 n0_6 c0_6, undef, .pointer (some ⟨b43, 0, none⟩), (U15 9), (U15 10), (U15 11), .bool false, (U26 13), .slice A2 n2 c2, .int .i64 ((n2 : Nat) : Int), .int .i64 ((i : Nat) : Int), .bool true, U58 18, U58 19, (U0 20), (U0 21), (U0 22), (U0 23), (U0 24), (U0 25), (U0 26), (U0 27), (U0 28), (U0 29), (U0 30), (U0 31), (U0 32), (U0 33), (U0 34), (U0 35), (U0 36), (U0 37), (U0 38), undef]) (by kernel_rfl) (fun U58 => ?_)
      have x6 := SG.blk s56 x6 (by simp)
      have c59 := (SG.belowR c30 s56 (fun kq e => by cases e))
      refine h11 _ _ ?_
      refine wp_seq_k (fun K12 h12 => ?_)
      refine W.region_sch (row := none) (Sch.of [(0, false), (1, false), (2, false), (3, false), (5, false), (6, false), (7, false), (4, true), (10, false), (8, true), (9, true), (11, false), (12, true)]) (by kernel_rfl) (by kernel_rfl) (fun _ d _ _ _ h => by cases d <;> exact h) (by kernel_rfl) (fun w60 e61 s62 => ?_)
      have ho63 := own_heap ho57 e61
      refine W.sq (v := .agg #[.int .i64 m, .slice A n c]) rfl (r_load2 rfl (by kernel_rfl) (by kernel_rfl) (by kernel_rfl) (sgS (blk_cell (j := 0) x6 (by kernel_rfl)) (by simp)) (sgS (blk_cell (j := 1) x6 (by kernel_rfl)) (by simp))) (by kernel_rfl) rfl rfl ?_
      refine W.sq (v := .slice A2 n2 c2) rfl (r_move rfl (by kernel_rfl)) (by kernel_rfl) rfl rfl ?_
      refine W.sq (v := .pointer (some ⟨b43, 2, none⟩)) rfl (r_field (k := 2) rfl (by kernel_rfl) (by kernel_rfl)) (by kernel_rfl) rfl rfl ?_
      refine W.sq (v := .int .i64 x33.node) rfl (r_load rfl (by kernel_rfl) (by kernel_rfl) (sgS (blk_cell (j := 2) x55 (by kernel_rfl)) (by simp))) (by kernel_rfl) rfl rfl ?_
      refine W.sq (v := .agg #[.int .i64 m, .slice A n c]) rfl (r_load2 rfl (by kernel_rfl) (by kernel_rfl) (by kernel_rfl) (sgS (blk_cell (j := 0) x6 (by kernel_rfl)) (by simp)) (sgS (blk_cell (j := 1) x6 (by kernel_rfl)) (by simp))) (by kernel_rfl) rfl rfl ?_
      refine W.sq (v := .pointer (some ⟨b43, 1, none⟩)) rfl (r_field (k := 1) rfl (by kernel_rfl) (by kernel_rfl)) (by kernel_rfl) rfl rfl ?_
      refine W.sq (v := .int .i64 x33.pipe) rfl (r_load rfl (by kernel_rfl) (by kernel_rfl) (sgS (blk_cell (j := 1) x55 (by kernel_rfl)) (by simp))) (by kernel_rfl) rfl rfl ?_
      obtain ⟨kz, pz, ekz, hkz, hpz, hnz⟩ := hv9.place x33 (List.mem_of_getElem? hx34)
      have hgz := hg.at hpz
      refine W.sc (vs := [.agg #[.int .i64 m, .slice A n c], .slice A2 n2 c2, .int .i64 x33.node]) rfl rfl (by kernel_rfl) (by kernel_rfl) (by kernel_rfl) rfl (segmentOf_any m A n c ps A2 n2 c2 vs (x33.node) (x33.node).toNat _ (Rd.kept ha (SG.belowR c59 s62 (fun kq e => by cases e))) (Rd.kept hb (SG.belowR c59 s62 (fun kq e => by cases e))) (by omega) (by omega) hp (by omega) (by omega) (by omega) (by omega)) ?_
      rintro e w70 ⟨pb64, rfl, lo68, rd65, b69⟩
      have s71 := SG.of_below s62 b69
      refine ⟨_, rfl, s71, ?_⟩
      have ho72 := own_kept ho63 b69
      have hl66 := rd_bools_len rd65
      rw [wetL_len] at hl66
      have hl66 : (wetL (linked ps (openQ vs false)) (x33.node)).length = 19 := wetL_len _ _
      refine W.sq (v := .pointer (some ⟨pb64, 0, none⟩)) rfl (r_nilCheck rfl (by kernel_rfl)) (by kernel_rfl) rfl rfl ?_
      refine W.sc (vs := [.agg #[.int .i64 m, .slice A n c], .int .i64 x33.pipe]) rfl rfl (by kernel_rfl) (by kernel_rfl) (by kernel_rfl) rfl (pipeIndex_any m A n c ps x33.pipe _ (Rd.kept ha (SG.belowR c59 s71 (fun kq e => by cases e))) (by omega)) ?_
      rintro e w74 ⟨rfl, b73⟩
      have s75 := SG.of_below s71 b73
      refine ⟨_, rfl, s75, ?_⟩
      have ho76 := own_kept ho72 b73
      have rd77 := Rd.kept rd65 b73
      refine W.sc (vs := [.int .i64 (findL ps x33.pipe)]) rfl rfl (by kernel_rfl) (by kernel_rfl) (by kernel_rfl) rfl (element_any (findL ps x33.pipe) _ (by omega)) ?_
      rintro e w' ⟨rfl, rfl⟩
      refine ⟨_, rfl, s75, ?_⟩
      obtain ⟨x80, hx81⟩ := get_of (zs := (wetL (linked ps (openQ vs false)) (x33.node))) (k := (9 + kz)) (by have := hl66; omega)
      obtain ⟨hb82, hc83⟩ := Rd.elBool rd77 hx81
      refine W.sq (v := .pointer (some ⟨pb64, (9 + kz), none⟩)) rfl (r_idxA (len := 19) (k := (9 + kz)) rfl (by kernel_rfl) (evk (z := 9 + (findL ps x33.pipe)) (by kernel_rfl) (by omega)) (by kernel_rfl) (by omega)) (by kernel_rfl) rfl rfl ?_
      refine W.slq (v := .bool x80) s75 rfl (r_load rfl (by kernel_rfl) (by kernel_rfl) (eqS hc83)) (by kernel_rfl) rfl ?_
      refine W.sch_endU (fun U84 => [.agg #[.int .i64 m, .slice A n c], .slice A2 n2 c2, .pointer (some ⟨b2, 0, none⟩), undef, .slice none 0 0, .bool false, .slice A0_6 n0_6 c0_6, undef, .pointer (some ⟨b43, 0, none⟩), (U15 9), (U15 10), (U15 11), .bool false, (U26 13), .slice A2 n2 c2, .int .i64 ((n2 : Nat) : Int), .int .i64 ((i : Nat) : Int), .bool true, (U58 18), (U58 19), U84 20, U84 21, U84 22, U84 23, U84 24, U84 25, U84 26, U84 27, U84 28, U84 29, U84 30, U84 31, .bool x80, (U0 33), (U0 34), (U0 35), (U0 36), (U0 37), (U0 38), undef]) (by kernel_rfl) (fun U84 => ?_)
      have x6 := SG.blk s75 x6 (by simp)
      have x55 := SG.blk s75 x55 (by simp)
      have c85 := (SG.belowR c59 s75 (fun kq e => by cases e))
      refine h12 _ _ ?_
      rcases Bool.eq_false_or_eq_true x80 with q86 | q86
      · rw [q86]
        refine wp_cond_true (by kernel_rfl) ?_
        refine W.region_plain (row := (Value.ownBlock (.slice A0_6 n0_6 c0_6))) [(0, false), (1, false), (2, false), (3, true), (4, true), (5, false)] (by kernel_rfl) ?_
        have s87 := SG.self w74 (Value.ownBlock (.slice A0_6 n0_6 c0_6))
        refine W.sq (v := .slice A0_6 n0_6 c0_6) rfl (r_move rfl (by kernel_rfl)) (by kernel_rfl) rfl rfl ?_
        refine W.sq (v := .pointer (some ⟨b43, 0, none⟩)) rfl (r_field0 rfl (by kernel_rfl) (by kernel_rfl)) (by kernel_rfl) rfl rfl ?_
        refine W.sq (v := .int .i64 x33.id) rfl (r_load rfl (by kernel_rfl) (by kernel_rfl) (sgS (blk_cell (j := 0) x55 (by kernel_rfl)) nb51)) (by kernel_rfl) rfl rfl ?_
        refine W.sn (fun b => .slice (some ⟨b, 0, none⟩) 1 1) #[.int .i64 x33.id] 3 s87 rfl (by kernel_rfl) rfl (fun _ => by kernel_rfl) (fun b88 w89 hb90 k91 x92 s93 => ?_)
        have lo94 : w.heap.size ≤ b88 := by have := ((SG.belowR c85 s87 (fun kq e => (World.ownsRow.lt ho76 kq e).1))).size; omega
        have ne95 : b2 ≠ b88 := by have := blk_lt x6; have := World.grownBy.size s87; omega
        have ne96 : b43 ≠ b88 := by have := blk_lt x55; have := World.grownBy.size s87; omega
        have nb97 : Nb b88 (.slice A0_6 n0_6 c0_6) := nb_hi ho76 (Nat.le_of_eq hb90)
        have ho98 := own_kept ho76 k91
        refine W.sap (e := 3) (size := 1) (base := w.heap.size) (m := 1) (v := .slice A0_6 n0_6 c0_6) (c := 1) s93 rfl rfl rfl rfl (by kernel_rfl) (by kernel_rfl) (by kernel_rfl) ho98 x92 (by kernel_rfl) (by kernel_rfl) (by omega) (by omega) (by have := ((SG.belowR c85 s93 (fun kq e => (World.ownsRow.lt ho76 kq e).1))).size; omega) (.inl rfl) (fun g99 cap100 w101 ho102 hg103 hat104 hlt105 s106 => ?_)
        have nb107 : Nb b2 (.slice (some ⟨g99, 0, none⟩) (n0_6 + 1) cap100) := nb_app nb0_6_b2 (Nat.lt_of_lt_of_le (blk_lt x6) (World.grownBy.size s93)) hat104
        have nb108 : Nb b43 (.slice (some ⟨g99, 0, none⟩) (n0_6 + 1) cap100) := nb_app nb51 (Nat.lt_of_lt_of_le (blk_lt x55) (World.grownBy.size s93)) hat104
        have nb109 : Nb b88 (.slice (some ⟨g99, 0, none⟩) (n0_6 + 1) cap100) := nb_app nb97 (blk_lt x92) hat104
        have x92 := (hg103.block _ (blk_lt x92) nb97).trans x92
        have ho102 := own_snoc ho102
        refine W.sq (v := .slice (some ⟨g99, 0, none⟩) (n0_6 + 1) cap100) rfl (r_assign rfl (by kernel_rfl)) (by kernel_rfl) rfl rfl ?_
        refine W.sch_endU (fun U110 => [.agg #[.int .i64 m, .slice A n c], .slice A2 n2 c2, .pointer (some ⟨b2, 0, none⟩), undef, .slice none 0 0, .bool false, .slice (some ⟨g99, 0, none⟩) (n0_6 + 1) cap100, undef, .pointer (some ⟨b43, 0, none⟩), (U15 9), (U15 10), (U15 11), .bool false, (U26 13), .slice A2 n2 c2, .int .i64 ((n2 : Nat) : Int), .int .i64 ((i : Nat) : Int), .bool true, (U58 18), (U58 19), (U84 20), (U84 21), (U84 22), (U84 23), (U84 24), (U84 25), (U84 26), (U84 27), (U84 28), (U84 29), (U84 30), (U84 31), .bool true, U110 33, U110 34, U110 35, U110 36, U110 37, (U0 38), undef]) (by kernel_rfl) (fun U110 => ?_)
        have x6 := SG.blk s106 x6 nb0_6_b2
        have x55 := SG.blk s106 x55 nb51
        have c111 := (SG.belowR c85 s106 (fun kq e => (World.ownsRow.lt ho76 kq e).1))
        refine h10 _ _ ?_
        refine W.region_quiet [(0, false), (1, false)] (by kernel_rfl) ?_
        refine W.sq (v := .int .i64 ((i + 1 : Nat) : Int)) rfl (r_add (m := ((i : Nat) : Int)) (n := 1) (z := ((i + 1 : Nat) : Int)) rfl (by kernel_rfl) (by kernel_rfl) (by omega) (by omega)) (by kernel_rfl) rfl rfl ?_
        refine W.sq (v := .int .i64 ((i + 1 : Nat) : Int)) rfl (r_move rfl (by kernel_rfl)) (by kernel_rfl) rfl rfl ?_
        refine W.sch_endU (fun U112 => [.agg #[.int .i64 m, .slice A n c], .slice A2 n2 c2, .pointer (some ⟨b2, 0, none⟩), undef, .slice none 0 0, .bool false, .slice (some ⟨g99, 0, none⟩) (n0_6 + 1) cap100, undef, .pointer (some ⟨b43, 0, none⟩), (U15 9), (U15 10), (U15 11), .bool false, (U26 13), .slice A2 n2 c2, .int .i64 ((n2 : Nat) : Int), .int .i64 ((i + 1 : Nat) : Int), .bool true, (U58 18), (U58 19), (U84 20), (U84 21), (U84 22), (U84 23), (U84 24), (U84 25), (U84 26), (U84 27), (U84 28), (U84 29), (U84 30), (U84 31), .bool true, (U110 33), (U110 34), (U110 35), (U110 36), (U110 37), U112 38, undef]) (by kernel_rfl) (fun U112 => ?_)
        exact h7 _ _ _ (by omega : (n2 - (i + 1)) < _) ⟨i + 1, (some ⟨g99, 0, none⟩), (n0_6 + 1), cap100, (fun iU9 => [.agg #[.int .i64 m, .slice A n c], .slice A2 n2 c2, .pointer (some ⟨b2, 0, none⟩), undef, .slice none 0 0, .bool false, .slice (some ⟨g99, 0, none⟩) (n0_6 + 1) cap100, undef, .pointer (some ⟨b43, 0, none⟩), (U15 9), (U15 10), (U15 11), .bool false, (U26 13), .slice A2 n2 c2, .int .i64 ((n2 : Nat) : Int), .int .i64 ((i + 1 : Nat) : Int), .bool true, (U58 18), (U58 19), (U84 20), (U84 21), (U84 22), (U84 23), (U84 24), (U84 25), (U84 26), (U84 27), (U84 28), (U84 29), (U84 30), (U84 31), .bool true, (U110 33), (U110 34), (U110 35), (U110 36), (U110 37), (U112 38), undef].getD iU9 undef), (by kernel_rfl), rfl, (by omega), (by omega), x6, (by rw [needL_yes hx34 (by have h9 := wet_eqI (b := 9 + findL ps x33.pipe) hx81 (by omega); rw [← h9]; exact q86)]; exact ho102), nb107, c111⟩
      · rw [q86]
        refine wp_cond_false (by kernel_rfl) ?_
        refine wp_skip ?_
        refine h10 _ _ ?_
        refine W.region_quiet [(0, false), (1, false)] (by kernel_rfl) ?_
        refine W.sq (v := .int .i64 ((i + 1 : Nat) : Int)) rfl (r_add (m := ((i : Nat) : Int)) (n := 1) (z := ((i + 1 : Nat) : Int)) rfl (by kernel_rfl) (by kernel_rfl) (by omega) (by omega)) (by kernel_rfl) rfl rfl ?_
        refine W.sq (v := .int .i64 ((i + 1 : Nat) : Int)) rfl (r_move rfl (by kernel_rfl)) (by kernel_rfl) rfl rfl ?_
        refine W.sch_endU (fun U113 => [.agg #[.int .i64 m, .slice A n c], .slice A2 n2 c2, .pointer (some ⟨b2, 0, none⟩), undef, .slice none 0 0, .bool false, .slice A0_6 n0_6 c0_6, undef, .pointer (some ⟨b43, 0, none⟩), (U15 9), (U15 10), (U15 11), .bool false, (U26 13), .slice A2 n2 c2, .int .i64 ((n2 : Nat) : Int), .int .i64 ((i + 1 : Nat) : Int), .bool true, (U58 18), (U58 19), (U84 20), (U84 21), (U84 22), (U84 23), (U84 24), (U84 25), (U84 26), (U84 27), (U84 28), (U84 29), (U84 30), (U84 31), .bool false, (U0 33), (U0 34), (U0 35), (U0 36), (U0 37), U113 38, undef]) (by kernel_rfl) (fun U113 => ?_)
        exact h7 _ _ _ (by omega : (n2 - (i + 1)) < _) ⟨i + 1, A0_6, n0_6, c0_6, (fun iU9 => [.agg #[.int .i64 m, .slice A n c], .slice A2 n2 c2, .pointer (some ⟨b2, 0, none⟩), undef, .slice none 0 0, .bool false, .slice A0_6 n0_6 c0_6, undef, .pointer (some ⟨b43, 0, none⟩), (U15 9), (U15 10), (U15 11), .bool false, (U26 13), .slice A2 n2 c2, .int .i64 ((n2 : Nat) : Int), .int .i64 ((i + 1 : Nat) : Int), .bool true, (U58 18), (U58 19), (U84 20), (U84 21), (U84 22), (U84 23), (U84 24), (U84 25), (U84 26), (U84 27), (U84 28), (U84 29), (U84 30), (U84 31), .bool false, (U0 33), (U0 34), (U0 35), (U0 36), (U0 37), (U113 38), undef].getD iU9 undef), (by kernel_rfl), rfl, (by omega), (by omega), x6, (by rw [needL_no hx34 (by have h9 := wet_eqI (b := 9 + findL ps x33.pipe) hx81 (by omega); rw [← h9]; exact q86)]; exact ho76), nb0_6_b2, c85⟩
    · refine W.sq (v := .bool false) rfl (r_lss (m := ((i : Nat) : Int)) (n := ((n2 : Nat) : Int)) rfl (by kernel_rfl) (by kernel_rfl) (decide_eq_false q31)) (by kernel_rfl) rfl rfl ?_
      refine W.sch_end (l' := [.agg #[.int .i64 m, .slice A n c], .slice A2 n2 c2, .pointer (some ⟨b2, 0, none⟩), undef, .slice none 0 0, .bool false, .slice A0_6 n0_6 c0_6, undef, (U0 8), (U15 9), (U15 10), (U15 11), .bool false, (U26 13), .slice A2 n2 c2, .int .i64 ((n2 : Nat) : Int), .int .i64 ((i : Nat) : Int), .bool false, (U0 18), (U0 19), (U0 20), (U0 21), (U0 22), (U0 23), (U0 24), (U0 25), (U0 26), (U0 27), (U0 28), (U0 29), (U0 30), (U0 31), (U0 32), (U0 33), (U0 34), (U0 35), (U0 36), (U0 37), (U0 38), undef]) (by kernel_rfl) ?_
      refine h8 _ _ ?_
      refine wp_seq_k (fun K13 h13 => ?_)
      refine wp_cond_false (by kernel_rfl) ?_
      refine wp_exit ?_
      refine h5 _ _ ?_
      refine wp_seq_k (fun K14 h14 => ?_)
      refine W.region_quiet [(0, false), (1, false), (2, false)] (by kernel_rfl) ?_
      refine W.sq (v := .slice A0_6 n0_6 c0_6) rfl (r_move rfl (by kernel_rfl)) (by kernel_rfl) rfl rfl ?_
      refine W.sq (v := .slice A0_6 n0_6 c0_6) rfl (r_assign rfl (by kernel_rfl)) (by kernel_rfl) rfl rfl ?_
      refine W.sq (v := .bool true) rfl (r_assign rfl (by kernel_rfl)) (by kernel_rfl) rfl rfl ?_
      refine W.sch_endU (fun U114 => [.agg #[.int .i64 m, .slice A n c], .slice A2 n2 c2, .pointer (some ⟨b2, 0, none⟩), undef, .slice A0_6 n0_6 c0_6, .bool true, .slice A0_6 n0_6 c0_6, undef, (U0 8), (U15 9), (U15 10), (U15 11), .bool false, (U26 13), .slice A2 n2 c2, .int .i64 ((n2 : Nat) : Int), .int .i64 ((i : Nat) : Int), .bool false, (U0 18), (U0 19), (U0 20), (U0 21), (U0 22), (U0 23), (U0 24), (U0 25), (U0 26), (U0 27), (U0 28), (U0 29), (U0 30), (U0 31), (U0 32), (U0 33), (U0 34), (U0 35), (U0 36), (U0 37), (U0 38), U114 39]) (by kernel_rfl) (fun U114 => ?_)
      refine h14 _ _ ?_
      refine wp_ret ?_
      try simp only [Exit.then]
      refine ret2 (v := .slice A0_6 n0_6 c0_6) (x := .bool true) rfl (by kernel_rfl) (by kernel_rfl) ?_
      exact fin_ints  ho0_6 (by unfold NeedlessValves_v0; rw [if_pos q14, List.take_of_length_le (by omega)]) (by unfold NeedlessValves_v1; exact q14.symm) c30
  · rw [q14]
    refine W.sq (v := .bool true) rfl (r_not (b := false) rfl (by kernel_rfl) rfl) (by kernel_rfl) rfl rfl ?_
    refine W.sch_endU (fun U115 => [.agg #[.int .i64 m, .slice A n c], .slice A2 n2 c2, .pointer (some ⟨b2, 0, none⟩), undef, .slice none 0 0, .bool false, undef, undef, undef, U115 9, U115 10, U115 11, .bool true, undef, undef, undef, undef, undef, undef, undef, undef, undef, undef, undef, undef, undef, undef, undef, undef, undef, undef, undef, undef, undef, undef, undef, undef, undef, undef, undef]) (by kernel_rfl) (fun U115 => ?_)
    have x6 := SG.blk s13 x6 (by simp)
    have c116 := (SG.belowR c9 s13 (fun kq e => by cases e))
    refine h3 _ _ ?_
    refine wp_cond_true (by kernel_rfl) ?_
    refine wp_seq_k (fun K15 h15 => ?_)
    refine W.region_quiet [(0, false), (1, false)] (by kernel_rfl) ?_
    refine W.sq (v := .slice none 0 0) rfl (r_assign rfl (by kernel_rfl)) (by kernel_rfl) rfl rfl ?_
    refine W.sq (v := .bool false) rfl (r_assign rfl (by kernel_rfl)) (by kernel_rfl) rfl rfl ?_
    refine W.sch_end (l' := [.agg #[.int .i64 m, .slice A n c], .slice A2 n2 c2, .pointer (some ⟨b2, 0, none⟩), undef, .slice none 0 0, .bool false, undef, undef, undef, (U115 9), (U115 10), (U115 11), .bool true, undef, undef, undef, undef, undef, undef, undef, undef, undef, undef, undef, undef, undef, undef, undef, undef, undef, undef, undef, undef, undef, undef, undef, undef, undef, undef, undef]) (by kernel_rfl) ?_
    refine h15 _ _ ?_
    refine wp_ret ?_
    try simp only [Exit.then]
    refine ret2 (v := .slice none 0 0) (x := .bool false) rfl (by kernel_rfl) (by kernel_rfl) ?_
    exact fin_ints (zs := []) (World.ownsRow_nil _ _ _ _) (by unfold NeedlessValves_v0; rw [if_neg (by rw [q14]; simp)]) (by unfold NeedlessValves_v1; exact q14.symm) c116

set_option maxRecDepth 100000 in
set_option maxHeartbeats 1000000 in
theorem NeedlessValves_spec (m : Int) (A : Option Addr) (n c : Nat) (ps : List Pp) (A2 : Option Addr) (n2 c2 : Nat) (vs : List Vv) (w : World) (ha : Rd w 4 A n (pipesV ps)) (hb : Rd w 4 A2 n2 (valvesV vs)) (hn : n ≤ 1048576) (hn2 : n2 ≤ 1048576) (hfm : Fm A n c) (hfm2 : Fm A2 n2 c2) :
    Calls Try.prog 42 #[.agg #[.int .i64 m, .slice A n c], .slice A2 n2 c2] w fun e w' => ∃ A' d, e = .returned (.tuple #[.slice A' (NeedlessValves_v0 m ps vs).length d, .bool (NeedlessValves_v1 m ps vs)]) ∧ Rd w' 1 A' (NeedlessValves_v0 m ps vs).length (intsV (NeedlessValves_v0 m ps vs)) ∧ Below w.heap.size w w' := by
  have hl := rd_pipes_len ha
  have hl2 := rd_valves_len hb
  go_enter Try.func42, Try.ntmps42
  refine wp_seq_k (fun K1 h1 => ?_)
  refine W.region_plain (row := none) [(0, true), (1, false), (2, false)] (by kernel_rfl) ?_
  have s1 := SG.self w none
  refine W.sn (fun b => .pointer (some ⟨b, 0, none⟩)) #[.int .i64 m, .slice A n c] 31 s1 rfl (by kernel_rfl) rfl (fun _ => by kernel_rfl) (fun b2 w3 hb4 k5 x6 s7 => ?_)
  have lo8 : w.heap.size ≤ b2 := by have := ((SG.belowR (Below.refl _ _) s1 (fun kq e => by cases e))).size; omega
  refine W.sq (v := .slice none 0 0) rfl (r_assign rfl (by kernel_rfl)) (by kernel_rfl) rfl rfl ?_
  refine W.sq (v := .bool false) rfl (r_assign rfl (by kernel_rfl)) (by kernel_rfl) rfl rfl ?_
  refine W.sch_end (l' := [.agg #[.int .i64 m, .slice A n c], .slice A2 n2 c2, .pointer (some ⟨b2, 0, none⟩), undef, .slice none 0 0, .bool false, undef, undef, undef, undef, undef, undef, undef, undef, undef, undef, undef, undef, undef, undef, undef, undef, undef, undef, undef, undef, undef, undef, undef, undef, undef, undef, undef, undef, undef, undef, undef, undef, undef, undef, undef, undef, undef, undef, undef, undef, undef, undef, undef, undef, undef, undef, undef]) (by kernel_rfl) ?_
  have c9 := (SG.belowR (Below.refl _ _) s7 (fun kq e => by cases e))
  refine h1 _ _ ?_
  refine wp_seq_k (fun K2 h2 => ?_)
  refine W.region_plain (row := none) [(0, true), (1, false)] (by kernel_rfl) ?_
  have s10 := SG.self w3 none
  refine W.sn (fun b => .slice (some ⟨b, 0, none⟩) 0 0) #[] 3 s10 rfl (by kernel_rfl) rfl (fun _ => by kernel_rfl) (fun b11 w12 hb13 k14 x15 s16 => ?_)
  have lo17 : w.heap.size ≤ b11 := by have := ((SG.belowR c9 s10 (fun kq e => by cases e))).size; omega
  have ne18 : b2 ≠ b11 := by have := blk_lt x6; have := World.grownBy.size s10; omega
  refine W.sq (v := .slice (some ⟨b11, 0, none⟩) 0 0) rfl (r_assign rfl (by kernel_rfl)) (by kernel_rfl) rfl rfl ?_
  refine W.sch_endU (fun U19 => [.agg #[.int .i64 m, .slice A n c], .slice A2 n2 c2, .pointer (some ⟨b2, 0, none⟩), undef, .slice none 0 0, .bool false, .slice (some ⟨b11, 0, none⟩) 0 0, undef, undef, undef, U19 10, undef, undef, undef, undef, undef, undef, undef, undef, undef, undef, undef, undef, undef, undef, undef, undef, undef, undef, undef, undef, undef, undef, undef, undef, undef, undef, undef, undef, undef, undef, undef, undef, undef, undef, undef, undef, undef, undef, undef, undef, undef, undef]) (by kernel_rfl) (fun U19 => ?_)
  have x6 := SG.blk s16 x6 (by simp)
  have c20 := (SG.belowR c9 s16 (fun kq e => by cases e))
  refine h2 _ _ ?_
  refine wp_seq_k (fun K3 h3 => ?_)
  refine wp_seq_k (fun K4 h4 => ?_)
  refine W.region_plain (row := none) [(0, false), (1, false), (2, true), (3, false)] (by kernel_rfl) ?_
  have s21 := SG.self w12 none
  refine W.sq (v := .agg #[.int .i64 m, .slice A n c]) rfl (r_load2 rfl (by kernel_rfl) (by kernel_rfl) (by kernel_rfl) (sgS (blk_cell (j := 0) x6 (by kernel_rfl)) (by simp)) (sgS (blk_cell (j := 1) x6 (by kernel_rfl)) (by simp))) (by kernel_rfl) rfl rfl ?_
  refine W.sq (v := .slice A2 n2 c2) rfl (r_move rfl (by kernel_rfl)) (by kernel_rfl) rfl rfl ?_
  refine W.sc (vs := [.agg #[.int .i64 m, .slice A n c], .slice A2 n2 c2]) rfl rfl (by kernel_rfl) (by kernel_rfl) (by kernel_rfl) rfl (l4Good_any m A n c ps A2 n2 c2 vs _ (Rd.kept ha (SG.belowR c20 s21 (fun kq e => by cases e))) (Rd.kept hb (SG.belowR c20 s21 (fun kq e => by cases e))) (by omega) (by omega)) ?_
  rintro e w23 ⟨rfl, b22⟩
  have s24 := SG.of_below s21 b22
  refine ⟨_, rfl, s24, ?_⟩
  rcases Bool.eq_false_or_eq_true (goodV m ps vs) with q25 | q25
  · rw [q25]
    have hv9 := goodV_of q25
    have hg := hv9.net
    have hgl := hg.lo
    have hgh := hg.hi
    have hp := hg.pipesIn
    have hlen10 := hg.len
    have hu := hv9.uniq
    have hvl := hv9.len
    refine W.sq (v := .bool false) rfl (r_not (b := true) rfl (by kernel_rfl) rfl) (by kernel_rfl) rfl rfl ?_
    refine W.sch_endU (fun U26 => [.agg #[.int .i64 m, .slice A n c], .slice A2 n2 c2, .pointer (some ⟨b2, 0, none⟩), undef, .slice none 0 0, .bool false, .slice (some ⟨b11, 0, none⟩) 0 0, undef, undef, undef, (U19 10), U26 11, U26 12, U26 13, .bool false, undef, undef, undef, undef, undef, undef, undef, undef, undef, undef, undef, undef, undef, undef, undef, undef, undef, undef, undef, undef, undef, undef, undef, undef, undef, undef, undef, undef, undef, undef, undef, undef, undef, undef, undef, undef, undef, undef]) (by kernel_rfl) (fun U26 => ?_)
    have x6 := SG.blk s24 x6 (by simp)
    have x15 := SG.blk s24 x15 (by simp)
    have c27 := (SG.belowR c20 s24 (fun kq e => by cases e))
    refine h4 _ _ ?_
    refine wp_cond_false (by kernel_rfl) ?_
    refine wp_skip ?_
    refine h3 _ _ ?_
    refine wp_seq_k (fun K5 h5 => ?_)
    refine wp_seq_k (fun K6 h6 => ?_)
    refine W.region_quiet [(0, false)] (by kernel_rfl) ?_
    refine W.sq (v := .int .i64 0) rfl (r_assign rfl (by kernel_rfl)) (by kernel_rfl) rfl rfl ?_
    refine W.sch_end (l' := [.agg #[.int .i64 m, .slice A n c], .slice A2 n2 c2, .pointer (some ⟨b2, 0, none⟩), undef, .slice none 0 0, .bool false, .slice (some ⟨b11, 0, none⟩) 0 0, .int .i64 0, undef, undef, (U19 10), (U26 11), (U26 12), (U26 13), .bool false, undef, undef, undef, undef, undef, undef, undef, undef, undef, undef, undef, undef, undef, undef, undef, undef, undef, undef, undef, undef, undef, undef, undef, undef, undef, undef, undef, undef, undef, undef, undef, undef, undef, undef, undef, undef, undef, undef]) (by kernel_rfl) ?_
    refine h6 _ _ ?_
    refine wp_block ?_
    have ho28 := own_empty (base := w.heap.size) (size := 1) x15 lo17
    replace ho28 : World.ownsRow _ _ _ _ _ _ (intsV []) := ho28
    have nb29 : Nb b2 (.slice (some ⟨b11, 0, none⟩) 0 0) := nb_new (by have := ne18; omega)
    refine loopK (fun am0 aa0 wl0 => ∃ (i : Nat) (A0_6 : Option Addr) (n0_6 : Nat) (c0_6 : Nat) (U0 : Nat → Value), aa0 = ⟨[.agg #[.int .i64 m, .slice A n c], .slice A2 n2 c2, .pointer (some ⟨b2, 0, none⟩), undef, .slice none 0 0, .bool false, .slice A0_6 n0_6 c0_6, .int .i64 ((i : Nat) : Int), U0 8, U0 9, (U19 10), (U26 11), (U26 12), (U26 13), .bool false, undef, U0 16, U0 17, U0 18, U0 19, U0 20, U0 21, U0 22, U0 23, U0 24, U0 25, U0 26, U0 27, U0 28, U0 29, U0 30, U0 31, U0 32, U0 33, U0 34, U0 35, U0 36, U0 37, U0 38, U0 39, U0 40, U0 41, U0 42, U0 43, U0 44, U0 45, U0 46, U0 47, U0 48, U0 49, U0 50, U0 51, undef].toArray, []⟩ ∧ (am0 = n2 - i) ∧ (i ≤ n2) ∧ (n0_6 ≤ i) ∧ (wl0.heap[b2]? = some (.cells #[.int .i64 m, .slice A n c] 31 (0, 0))) ∧ (wl0.ownsRow w.heap.size 3 1 (.slice A0_6 n0_6 c0_6) n0_6 (intsV (needL ps vs (vs.take i)))) ∧ (Nb b2 (.slice A0_6 n0_6 c0_6)) ∧ (Below w.heap.size w wl0)) (n2 - 0) ?_ ?_
    · exact ⟨0, (some ⟨b11, 0, none⟩), 0, 0, (fun iU9 => [.agg #[.int .i64 m, .slice A n c], .slice A2 n2 c2, .pointer (some ⟨b2, 0, none⟩), undef, .slice none 0 0, .bool false, .slice (some ⟨b11, 0, none⟩) 0 0, .int .i64 0, undef, undef, (U19 10), (U26 11), (U26 12), (U26 13), .bool false, undef, undef, undef, undef, undef, undef, undef, undef, undef, undef, undef, undef, undef, undef, undef, undef, undef, undef, undef, undef, undef, undef, undef, undef, undef, undef, undef, undef, undef, undef, undef, undef, undef, undef, undef, undef, undef, undef].getD iU9 undef), (by kernel_rfl), rfl, (Nat.zero_le _), (Nat.zero_le _), x6, ho28, nb29, c27⟩
    rintro am0 aa0 wl0 K7 h7 ⟨i, A0_6, n0_6, c0_6, U0, rfl, rfl, hi, hb6, x6, ho0_6, nb0_6_b2, c30⟩
    refine wp_seq_k (fun K8 h8 => ?_)
    refine wp_seq_k (fun K9 h9 => ?_)
    refine W.region_quiet [(0, false), (1, false), (2, false), (3, false)] (by kernel_rfl) ?_
    refine W.sq (v := .int .i64 ((i : Nat) : Int)) rfl (r_move rfl (by kernel_rfl)) (by kernel_rfl) rfl rfl ?_
    refine W.sq (v := .slice A2 n2 c2) rfl (r_move rfl (by kernel_rfl)) (by kernel_rfl) rfl rfl ?_
    refine W.sq (v := .int .i64 ((n2 : Nat) : Int)) rfl (r_len (A := A2) (n := n2) (c := c2) rfl (by kernel_rfl) (by kernel_rfl)) (by kernel_rfl) rfl rfl ?_
    by_cases q31 : (((i : Nat) : Int) : Int) < (((n2 : Nat) : Int) : Int)
    · refine W.sq (v := .bool true) rfl (r_lss (m := ((i : Nat) : Int)) (n := ((n2 : Nat) : Int)) rfl (by kernel_rfl) (by kernel_rfl) (decide_eq_true q31)) (by kernel_rfl) rfl rfl ?_
      refine W.sch_endU (fun U32 => [.agg #[.int .i64 m, .slice A n c], .slice A2 n2 c2, .pointer (some ⟨b2, 0, none⟩), undef, .slice none 0 0, .bool false, .slice A0_6 n0_6 c0_6, .int .i64 ((i : Nat) : Int), (U0 8), (U0 9), (U19 10), (U26 11), (U26 12), (U26 13), .bool false, undef, U32 16, U32 17, U32 18, .bool true, (U0 20), (U0 21), (U0 22), (U0 23), (U0 24), (U0 25), (U0 26), (U0 27), (U0 28), (U0 29), (U0 30), (U0 31), (U0 32), (U0 33), (U0 34), (U0 35), (U0 36), (U0 37), (U0 38), (U0 39), (U0 40), (U0 41), (U0 42), (U0 43), (U0 44), (U0 45), (U0 46), (U0 47), (U0 48), (U0 49), (U0 50), (U0 51), undef]) (by kernel_rfl) (fun U32 => ?_)
      refine h9 _ _ ?_
      refine wp_cond_true (by kernel_rfl) ?_
      refine wp_skip ?_
      refine h8 _ _ ?_
      refine wp_seq_k (fun K10 h10 => ?_)
      refine wp_block ?_
      refine wp_seq_k (fun K11 h11 => ?_)
      refine W.region_sch (row := none) (Sch.app [(0, false), (1, false), (2, false), (3, false), (4, false), (5, false), (6, false)] (.br 7 8 (Sch.of [(8, true), (9, true), (10, false), (11, false), (12, false), (13, false), (14, false)]) (Sch.of [(7, true), (9, true), (10, false), (11, false), (12, false), (13, false), (14, false)]))) (by kernel_rfl) (by kernel_rfl) (fun _ d _ _ _ h => by cases d <;> exact h) (by kernel_rfl) (fun w33 e34 s35 => ?_)
      have ho36 := own_heap ho0_6 e34
      refine W.sq (v := .agg #[.int .i64 m, .slice A n c]) rfl (r_load2 rfl (by kernel_rfl) (by kernel_rfl) (by kernel_rfl) (sgS (blk_cell (j := 0) x6 (by kernel_rfl)) (by simp)) (sgS (blk_cell (j := 1) x6 (by kernel_rfl)) (by simp))) (by kernel_rfl) rfl rfl ?_
      refine W.sq (v := .slice A2 n2 c2) rfl (r_move rfl (by kernel_rfl)) (by kernel_rfl) rfl rfl ?_
      refine W.sq (v := .slice A2 n2 c2) rfl (r_move rfl (by kernel_rfl)) (by kernel_rfl) rfl rfl ?_
      refine W.sq (v := .int .i64 ((i : Nat) : Int)) rfl (r_move rfl (by kernel_rfl)) (by kernel_rfl) rfl rfl ?_
      obtain ⟨x37, hx38⟩ := get_of (zs := vs) (k := i) (by have := hl2; omega)
      obtain ⟨b39, o40, hA41, hb42, hc43, hc44, hc45, hc46⟩ := Rd.elValve hb hx38
      refine W.sq (v := .pointer (some ⟨b39, o40 + i * 4, none⟩)) rfl (r_idx (n := n2) (c := c2) (k := i) rfl (by kernel_rfl) hA41 (by kernel_rfl) (by kernel_rfl) (by have := hl2; omega)) (by kernel_rfl) rfl rfl ?_
      refine W.sq (v := .pointer (some ⟨b39, o40 + i * 4 + 2, none⟩)) rfl (r_field (k := 2) rfl (by kernel_rfl) (by kernel_rfl)) (by kernel_rfl) rfl rfl ?_
      refine W.sq (v := .int .i64 x37.node) rfl (r_load rfl (by kernel_rfl) (by kernel_rfl) (sgS (later c30 hc45) (by simp))) (by kernel_rfl) rfl rfl ?_
      refine W.sbr ?_ ?_
      · refine W.sn (fun b => .slice (some ⟨b, 0, none⟩) 1 1) #[.int .i64 x37.node] 3 s35 rfl (by kernel_rfl) rfl (fun _ => by kernel_rfl) (fun b47 w48 hb49 k50 x51 s52 => ?_)
        have lo53 : w.heap.size ≤ b47 := by have := ((SG.belowR c30 s35 (fun kq e => by cases e))).size; omega
        have ne54 : b2 ≠ b47 := by have := blk_lt x6; have := World.grownBy.size s35; omega
        have nb55 : Nb b47 (.slice A0_6 n0_6 c0_6) := nb_hi ho36 (Nat.le_of_eq hb49)
        have ho56 := own_kept ho36 k50
        refine W.sn (fun b => .slice (some ⟨b, 0, none⟩) 0 0) #[] 3 s52 rfl (by kernel_rfl) rfl (fun _ => by kernel_rfl) (fun b57 w58 hb59 k60 x61 s62 => ?_)
        have lo63 : w.heap.size ≤ b57 := by have := ((SG.belowR c30 s52 (fun kq e => by cases e))).size; omega
        have ne64 : b2 ≠ b57 := by have := blk_lt x6; have := World.grownBy.size s52; omega
        have ne65 : b47 ≠ b57 := by have := blk_lt x51; omega
        have nb66 : Nb b57 (.slice A0_6 n0_6 c0_6) := nb_hi ho56 (Nat.le_of_eq hb59)
        have x51 := (k60.block _ (blk_lt x51)).trans x51
        have ho67 := own_kept ho56 k60
        obtain ⟨kz, pz, ekz, hkz, hpz, hnz⟩ := hv9.place x37 (List.mem_of_getElem? hx38)
        have hgz := hg.at hpz
        have ho68 := own_blk (base := w.heap.size) (size := 1) (n := 1) x51 lo53 rfl (by omega)
        replace ho68 : World.ownsRow _ _ _ _ _ _ (intsV [x37.node]) := ho68
        have nr69 : NbR (.slice (some ⟨b47, 0, none⟩) 1 1) (.slice A0_6 n0_6 c0_6) := nbr_new nb55
        have nb70 : Nb b2 (.slice (some ⟨b47, 0, none⟩) 1 1) := nb_new (by have := ne54; omega)
        have nb71 : Nb b57 (.slice (some ⟨b47, 0, none⟩) 1 1) := nb_new (by have := ne65; omega)
        have rd73 := own_rd ho68
        have hl74 := rd_ints_len rd73
        have ho75 := own_empty (base := w.heap.size) (size := 1) x61 lo63
        replace ho75 : World.ownsRow _ _ _ _ _ _ (intsV []) := ho75
        have nr76 : NbR (.slice (some ⟨b57, 0, none⟩) 0 0) (.slice A0_6 n0_6 c0_6) := nbr_new nb66
        have nb77 : Nb b2 (.slice (some ⟨b57, 0, none⟩) 0 0) := nb_new (by have := ne64; omega)
        have rd79 := own_rd ho75
        have hl80 := rd_ints_len rd79
        refine W.sc (vs := [.agg #[.int .i64 m, .slice A n c], .slice A2 n2 c2, .bool false, .slice (some ⟨b47, 0, none⟩) 1 1, .slice (some ⟨b57, 0, none⟩) 0 0]) rfl rfl (by kernel_rfl) (by kernel_rfl) (by kernel_rfl) rfl (l4Spread_false m A n c ps A2 n2 c2 vs (x37.node) (some ⟨b47, 0, none⟩) 1 1 ([x37.node]) (some ⟨b57, 0, none⟩) 0 0 ([]) _ (Rd.kept ha (SG.belowR c30 s62 (fun kq e => by cases e))) (Rd.kept hb (SG.belowR c30 s62 (fun kq e => by cases e))) (by omega) (by omega) hp (by omega) (by omega) rd73 (own_fm ho68) rd79 (own_fm ho75) (FndQ.startN _ (by omega))) ?_
        rintro e w96 ⟨A81, n82, c83, A84, n85, c86, rfl, rd87, fm88, rd89, fm90, b95⟩
        have s97 := SG.of_below s62 b95
        refine ⟨_, rfl, s97, ?_⟩
        have ho98 := own_kept ho67 b95
        have rd99 := Rd.kept rd73 b95
        have rd100 := Rd.kept rd79 b95
        have hl93 := rd_ints_len rd87
        have hl94 := rd_ints_len rd89
        have := nodesL_len (linked ps (openQ vs false)) m.toNat (x37.node) true
        have := idxL_len (linked ps (openQ vs false)) ps.length (x37.node) true
        refine W.sq (v := .tuple #[.slice A81 n82 c83, .slice A84 n85 c86]) rfl (r_move rfl (by kernel_rfl)) (by kernel_rfl) rfl rfl ?_
        refine W.sq (v := .slice A81 n82 c83) rfl (r_extract (vs := #[.slice A81 n82 c83, .slice A84 n85 c86]) rfl (by kernel_rfl) (by kernel_rfl)) (by kernel_rfl) rfl rfl ?_
        refine W.sq (v := .slice A84 n85 c86) rfl (r_extract (vs := #[.slice A81 n82 c83, .slice A84 n85 c86]) rfl (by kernel_rfl) (by kernel_rfl)) (by kernel_rfl) rfl rfl ?_
        refine W.sq (v := .slice A81 n82 c83) rfl (r_assign rfl (by kernel_rfl)) (by kernel_rfl) rfl rfl ?_
        refine W.sq (v := .slice A84 n85 c86) rfl (r_assign rfl (by kernel_rfl)) (by kernel_rfl) rfl rfl ?_
        refine W.sch_endU (fun U101 => [.agg #[.int .i64 m, .slice A n c], .slice A2 n2 c2, .pointer (some ⟨b2, 0, none⟩), undef, .slice none 0 0, .bool false, .slice A0_6 n0_6 c0_6, .int .i64 ((i : Nat) : Int), U101 8, .slice A84 n85 c86, (U19 10), (U26 11), (U26 12), (U26 13), .bool false, undef, (U32 16), (U32 17), (U32 18), .bool true, (U0 20), (U0 21), U101 22, U101 23, U101 24, U101 25, U101 26, U101 27, U101 28, U101 29, U101 30, U101 31, U101 32, U101 33, U101 34, (U0 35), (U0 36), (U0 37), (U0 38), (U0 39), (U0 40), (U0 41), (U0 42), (U0 43), (U0 44), (U0 45), (U0 46), (U0 47), (U0 48), (U0 49), (U0 50), (U0 51), undef]) (by kernel_rfl) (fun U101 => ?_)
        have x6 := SG.blk s97 x6 (by simp)
        have c102 := (SG.belowR c30 s97 (fun kq e => by cases e))
        refine h11 _ _ ?_
        refine wp_seq_k (fun K12 h12 => ?_)
        refine W.region_sch (row := none) (Sch.of [(0, false), (1, false), (2, false), (3, false), (4, false), (5, false), (6, false), (7, true), (8, true)]) (by kernel_rfl) (by kernel_rfl) (fun _ d _ _ _ h => by cases d <;> exact h) (by kernel_rfl) (fun w103 e104 s105 => ?_)
        have ho106 := own_heap ho98 e104
        refine W.sq (v := .slice A84 n85 c86) rfl (r_move rfl (by kernel_rfl)) (by kernel_rfl) rfl rfl ?_
        refine W.sq (v := .agg #[.int .i64 m, .slice A n c]) rfl (r_load2 rfl (by kernel_rfl) (by kernel_rfl) (by kernel_rfl) (sgS (blk_cell (j := 0) x6 (by kernel_rfl)) (by simp)) (sgS (blk_cell (j := 1) x6 (by kernel_rfl)) (by simp))) (by kernel_rfl) rfl rfl ?_
        refine W.sq (v := .slice A2 n2 c2) rfl (r_move rfl (by kernel_rfl)) (by kernel_rfl) rfl rfl ?_
        refine W.sq (v := .int .i64 ((i : Nat) : Int)) rfl (r_move rfl (by kernel_rfl)) (by kernel_rfl) rfl rfl ?_
        refine W.sq (v := .pointer (some ⟨b39, o40 + i * 4, none⟩)) rfl (r_idx (n := n2) (c := c2) (k := i) rfl (by kernel_rfl) hA41 (by kernel_rfl) (by kernel_rfl) (by have := hl2; omega)) (by kernel_rfl) rfl rfl ?_
        refine W.sq (v := .pointer (some ⟨b39, o40 + i * 4 + 1, none⟩)) rfl (r_field (k := 1) rfl (by kernel_rfl) (by kernel_rfl)) (by kernel_rfl) rfl rfl ?_
        refine W.sq (v := .int .i64 x37.pipe) rfl (r_load rfl (by kernel_rfl) (by kernel_rfl) (sgS (later c102 hc44) (by simp))) (by kernel_rfl) rfl rfl ?_
        refine W.sc (vs := [.agg #[.int .i64 m, .slice A n c], .int .i64 x37.pipe]) rfl rfl (by kernel_rfl) (by kernel_rfl) (by kernel_rfl) rfl (l2Find_any m A n c ps x37.pipe _ (Rd.kept ha (SG.belowR c102 s105 (fun kq e => by cases e))) (by omega)) ?_
        rintro e w108 ⟨rfl, b107⟩
        have s109 := SG.of_below s105 b107
        refine ⟨_, rfl, s109, ?_⟩
        have ho110 := own_kept ho106 b107
        refine W.sc (vs := [.slice A84 n85 c86, .int .i64 (findL ps x37.pipe)]) rfl rfl (by kernel_rfl) (by kernel_rfl) (by kernel_rfl) rfl (l1Has_any A84 n85 c86 (idxL (linked ps (openQ vs false)) ps.length (x37.node) true) (findL ps x37.pipe) _ (Rd.kept rd89 (SG.below s109)) (by omega)) ?_
        rintro e w112 ⟨rfl, b111⟩
        have s113 := SG.of_below s109 b111
        refine ⟨_, rfl, s113, ?_⟩
        have ho114 := own_kept ho110 b111
        rcases Bool.eq_false_or_eq_true ((idxL (linked ps (openQ vs false)) ps.length (x37.node) true).contains (findL ps x37.pipe)) with q115 | q115
        · rw [q115]
          refine W.sch_endU (fun U116 => [.agg #[.int .i64 m, .slice A n c], .slice A2 n2 c2, .pointer (some ⟨b2, 0, none⟩), undef, .slice none 0 0, .bool false, .slice A0_6 n0_6 c0_6, .int .i64 ((i : Nat) : Int), (U101 8), .slice A84 n85 c86, (U19 10), (U26 11), (U26 12), (U26 13), .bool false, undef, (U32 16), (U32 17), (U32 18), .bool true, (U0 20), (U0 21), (U101 22), (U101 23), (U101 24), (U101 25), (U101 26), (U101 27), (U101 28), (U101 29), (U101 30), (U101 31), (U101 32), (U101 33), (U101 34), U116 35, U116 36, U116 37, U116 38, U116 39, U116 40, U116 41, U116 42, .bool true, (U0 44), (U0 45), (U0 46), (U0 47), (U0 48), (U0 49), (U0 50), (U0 51), undef]) (by kernel_rfl) (fun U116 => ?_)
          have x6 := SG.blk s113 x6 (by simp)
          have c117 := (SG.belowR c102 s113 (fun kq e => by cases e))
          have rd118 := Rd.kept rd99 (SG.below s113)
          have rd119 := Rd.kept rd100 (SG.below s113)
          have rd120 := Rd.kept rd87 (SG.below s113)
          have rd121 := Rd.kept rd89 (SG.below s113)
          refine h12 _ _ ?_
          refine wp_cond_true (by kernel_rfl) ?_
          refine W.region_plain (row := (Value.ownBlock (.slice A0_6 n0_6 c0_6))) [(0, false), (1, false), (2, false), (3, false), (4, false), (5, false), (6, true), (7, true), (8, false)] (by kernel_rfl) ?_
          have s122 := SG.self w112 (Value.ownBlock (.slice A0_6 n0_6 c0_6))
          refine W.sq (v := .slice A0_6 n0_6 c0_6) rfl (r_move rfl (by kernel_rfl)) (by kernel_rfl) rfl rfl ?_
          refine W.sq (v := .slice A2 n2 c2) rfl (r_move rfl (by kernel_rfl)) (by kernel_rfl) rfl rfl ?_
          refine W.sq (v := .int .i64 ((i : Nat) : Int)) rfl (r_move rfl (by kernel_rfl)) (by kernel_rfl) rfl rfl ?_
          refine W.sq (v := .pointer (some ⟨b39, o40 + i * 4, none⟩)) rfl (r_idx (n := n2) (c := c2) (k := i) rfl (by kernel_rfl) hA41 (by kernel_rfl) (by kernel_rfl) (by have := hl2; omega)) (by kernel_rfl) rfl rfl ?_
          refine W.sq (v := .pointer (some ⟨b39, o40 + i * 4, none⟩)) rfl (r_field0 rfl (by kernel_rfl) (by kernel_rfl)) (by kernel_rfl) rfl rfl ?_
          refine W.sq (v := .int .i64 x37.id) rfl (r_load rfl (by kernel_rfl) (by kernel_rfl) (sgS (later c117 hc43) (nb_lo ho114 hb42))) (by kernel_rfl) rfl rfl ?_
          refine W.sn (fun b => .slice (some ⟨b, 0, none⟩) 1 1) #[.int .i64 x37.id] 3 s122 rfl (by kernel_rfl) rfl (fun _ => by kernel_rfl) (fun b123 w124 hb125 k126 x127 s128 => ?_)
          have lo129 : w.heap.size ≤ b123 := by have := ((SG.belowR c117 s122 (fun kq e => (World.ownsRow.lt ho114 kq e).1))).size; omega
          have sp130 : Sp A84 n85 (some b123) := sp_new rd121 (by have := World.grownBy.size s122; have := hb125; omega)
          have ne131 : b2 ≠ b123 := by have := blk_lt x6; have := World.grownBy.size s122; omega
          have nb132 : Nb b123 (.slice A0_6 n0_6 c0_6) := nb_hi ho114 (Nat.le_of_eq hb125)
          have ho133 := own_kept ho114 k126
          refine W.sap (e := 3) (size := 1) (base := w.heap.size) (m := 1) (v := .slice A0_6 n0_6 c0_6) (c := 1) s128 rfl rfl rfl rfl (by kernel_rfl) (by kernel_rfl) (by kernel_rfl) ho133 x127 (by kernel_rfl) (by kernel_rfl) (by omega) (by omega) (by have := ((SG.belowR c117 s128 (fun kq e => (World.ownsRow.lt ho114 kq e).1))).size; omega) (.inl rfl) (fun g134 cap135 w136 ho137 hg138 hat139 hlt140 s141 => ?_)
          have nb142 : Nb b2 (.slice (some ⟨g134, 0, none⟩) (n0_6 + 1) cap135) := nb_app nb0_6_b2 (Nat.lt_of_lt_of_le (blk_lt x6) (World.grownBy.size s128)) hat139
          have nb143 : Nb b123 (.slice (some ⟨g134, 0, none⟩) (n0_6 + 1) cap135) := nb_app nb132 (blk_lt x127) hat139
          have x127 := (hg138.block _ (blk_lt x127) nb132).trans x127
          have ho137 := own_snoc ho137
          refine W.sq (v := .slice (some ⟨g134, 0, none⟩) (n0_6 + 1) cap135) rfl (r_assign rfl (by kernel_rfl)) (by kernel_rfl) rfl rfl ?_
          refine W.sch_endU (fun U144 => [.agg #[.int .i64 m, .slice A n c], .slice A2 n2 c2, .pointer (some ⟨b2, 0, none⟩), undef, .slice none 0 0, .bool false, .slice (some ⟨g134, 0, none⟩) (n0_6 + 1) cap135, .int .i64 ((i : Nat) : Int), (U101 8), .slice A84 n85 c86, (U19 10), (U26 11), (U26 12), (U26 13), .bool false, undef, (U32 16), (U32 17), (U32 18), .bool true, (U0 20), (U0 21), (U101 22), (U101 23), (U101 24), (U101 25), (U101 26), (U101 27), (U101 28), (U101 29), (U101 30), (U101 31), (U101 32), (U101 33), (U101 34), (U116 35), (U116 36), (U116 37), (U116 38), (U116 39), (U116 40), (U116 41), (U116 42), .bool true, U144 44, U144 45, U144 46, U144 47, U144 48, U144 49, U144 50, U144 51, undef]) (by kernel_rfl) (fun U144 => ?_)
          have x6 := SG.blk s141 x6 nb0_6_b2
          have c145 := (SG.belowR c117 s141 (fun kq e => (World.ownsRow.lt ho114 kq e).1))
          have rd146 := rd_nbr rd118 s141 nr69
          have rd147 := rd_nbr rd119 s141 nr76
          refine h10 _ _ ?_
          refine W.region_quiet [(0, false), (1, false), (2, false)] (by kernel_rfl) ?_
          refine W.sq (v := .int .i64 ((i : Nat) : Int)) rfl (r_move rfl (by kernel_rfl)) (by kernel_rfl) rfl rfl ?_
          refine W.sq (v := .int .i64 ((i + 1 : Nat) : Int)) rfl (r_add (m := ((i : Nat) : Int)) (n := 1) (z := ((i + 1 : Nat) : Int)) rfl (by kernel_rfl) (by kernel_rfl) (by omega) (by omega)) (by kernel_rfl) rfl rfl ?_
          refine W.sq (v := .int .i64 ((i + 1 : Nat) : Int)) rfl (r_assign rfl (by kernel_rfl)) (by kernel_rfl) rfl rfl ?_
          refine W.sch_endU (fun U148 => [.agg #[.int .i64 m, .slice A n c], .slice A2 n2 c2, .pointer (some ⟨b2, 0, none⟩), undef, .slice none 0 0, .bool false, .slice (some ⟨g134, 0, none⟩) (n0_6 + 1) cap135, .int .i64 ((i + 1 : Nat) : Int), (U101 8), .slice A84 n85 c86, (U19 10), (U26 11), (U26 12), (U26 13), .bool false, undef, (U32 16), (U32 17), (U32 18), .bool true, U148 20, U148 21, (U101 22), (U101 23), (U101 24), (U101 25), (U101 26), (U101 27), (U101 28), (U101 29), (U101 30), (U101 31), (U101 32), (U101 33), (U101 34), (U116 35), (U116 36), (U116 37), (U116 38), (U116 39), (U116 40), (U116 41), (U116 42), .bool true, (U144 44), (U144 45), (U144 46), (U144 47), (U144 48), (U144 49), (U144 50), (U144 51), undef]) (by kernel_rfl) (fun U148 => ?_)
          exact h7 _ _ _ (by omega : (n2 - (i + 1)) < _) ⟨i + 1, (some ⟨g134, 0, none⟩), (n0_6 + 1), cap135, (fun iU9 => [.agg #[.int .i64 m, .slice A n c], .slice A2 n2 c2, .pointer (some ⟨b2, 0, none⟩), undef, .slice none 0 0, .bool false, .slice (some ⟨g134, 0, none⟩) (n0_6 + 1) cap135, .int .i64 ((i + 1 : Nat) : Int), (U101 8), .slice A84 n85 c86, (U19 10), (U26 11), (U26 12), (U26 13), .bool false, undef, (U32 16), (U32 17), (U32 18), .bool true, (U148 20), (U148 21), (U101 22), (U101 23), (U101 24), (U101 25), (U101 26), (U101 27), (U101 28), (U101 29), (U101 30), (U101 31), (U101 32), (U101 33), (U101 34), (U116 35), (U116 36), (U116 37), (U116 38), (U116 39), (U116 40), (U116 41), (U116 42), .bool true, (U144 44), (U144 45), (U144 46), (U144 47), (U144 48), (U144 49), (U144 50), (U144 51), undef].getD iU9 undef), (by kernel_rfl), rfl, (by omega), (by omega), x6, (by rw [needL_yes hx38 ((idxL_has (n := ps.length) (by omega)).symm.trans q115)]; exact ho137), nb142, c145⟩
        · rw [q115]
          refine W.sch_endU (fun U149 => [.agg #[.int .i64 m, .slice A n c], .slice A2 n2 c2, .pointer (some ⟨b2, 0, none⟩), undef, .slice none 0 0, .bool false, .slice A0_6 n0_6 c0_6, .int .i64 ((i : Nat) : Int), (U101 8), .slice A84 n85 c86, (U19 10), (U26 11), (U26 12), (U26 13), .bool false, undef, (U32 16), (U32 17), (U32 18), .bool true, (U0 20), (U0 21), (U101 22), (U101 23), (U101 24), (U101 25), (U101 26), (U101 27), (U101 28), (U101 29), (U101 30), (U101 31), (U101 32), (U101 33), (U101 34), U149 35, U149 36, U149 37, U149 38, U149 39, U149 40, U149 41, U149 42, .bool false, (U0 44), (U0 45), (U0 46), (U0 47), (U0 48), (U0 49), (U0 50), (U0 51), undef]) (by kernel_rfl) (fun U149 => ?_)
          have x6 := SG.blk s113 x6 (by simp)
          have c150 := (SG.belowR c102 s113 (fun kq e => by cases e))
          have rd151 := Rd.kept rd99 (SG.below s113)
          have rd152 := Rd.kept rd100 (SG.below s113)
          have rd153 := Rd.kept rd87 (SG.below s113)
          have rd154 := Rd.kept rd89 (SG.below s113)
          refine h12 _ _ ?_
          refine wp_cond_false (by kernel_rfl) ?_
          refine wp_skip ?_
          refine h10 _ _ ?_
          refine W.region_quiet [(0, false), (1, false), (2, false)] (by kernel_rfl) ?_
          refine W.sq (v := .int .i64 ((i : Nat) : Int)) rfl (r_move rfl (by kernel_rfl)) (by kernel_rfl) rfl rfl ?_
          refine W.sq (v := .int .i64 ((i + 1 : Nat) : Int)) rfl (r_add (m := ((i : Nat) : Int)) (n := 1) (z := ((i + 1 : Nat) : Int)) rfl (by kernel_rfl) (by kernel_rfl) (by omega) (by omega)) (by kernel_rfl) rfl rfl ?_
          refine W.sq (v := .int .i64 ((i + 1 : Nat) : Int)) rfl (r_assign rfl (by kernel_rfl)) (by kernel_rfl) rfl rfl ?_
          refine W.sch_endU (fun U155 => [.agg #[.int .i64 m, .slice A n c], .slice A2 n2 c2, .pointer (some ⟨b2, 0, none⟩), undef, .slice none 0 0, .bool false, .slice A0_6 n0_6 c0_6, .int .i64 ((i + 1 : Nat) : Int), (U101 8), .slice A84 n85 c86, (U19 10), (U26 11), (U26 12), (U26 13), .bool false, undef, (U32 16), (U32 17), (U32 18), .bool true, U155 20, U155 21, (U101 22), (U101 23), (U101 24), (U101 25), (U101 26), (U101 27), (U101 28), (U101 29), (U101 30), (U101 31), (U101 32), (U101 33), (U101 34), (U149 35), (U149 36), (U149 37), (U149 38), (U149 39), (U149 40), (U149 41), (U149 42), .bool false, (U0 44), (U0 45), (U0 46), (U0 47), (U0 48), (U0 49), (U0 50), (U0 51), undef]) (by kernel_rfl) (fun U155 => ?_)
          exact h7 _ _ _ (by omega : (n2 - (i + 1)) < _) ⟨i + 1, A0_6, n0_6, c0_6, (fun iU9 => [.agg #[.int .i64 m, .slice A n c], .slice A2 n2 c2, .pointer (some ⟨b2, 0, none⟩), undef, .slice none 0 0, .bool false, .slice A0_6 n0_6 c0_6, .int .i64 ((i + 1 : Nat) : Int), (U101 8), .slice A84 n85 c86, (U19 10), (U26 11), (U26 12), (U26 13), .bool false, undef, (U32 16), (U32 17), (U32 18), .bool true, (U155 20), (U155 21), (U101 22), (U101 23), (U101 24), (U101 25), (U101 26), (U101 27), (U101 28), (U101 29), (U101 30), (U101 31), (U101 32), (U101 33), (U101 34), (U149 35), (U149 36), (U149 37), (U149 38), (U149 39), (U149 40), (U149 41), (U149 42), .bool false, (U0 44), (U0 45), (U0 46), (U0 47), (U0 48), (U0 49), (U0 50), (U0 51), undef].getD iU9 undef), (by kernel_rfl), rfl, (by omega), (by omega), x6, (by rw [needL_no hx38 ((idxL_has (n := ps.length) (by omega)).symm.trans q115)]; exact ho114), nb0_6_b2, c150⟩
      · refine W.sn (fun b => .slice (some ⟨b, 0, none⟩) 0 0) #[] 3 s35 rfl (by kernel_rfl) rfl (fun _ => by kernel_rfl) (fun b156 w157 hb158 k159 x160 s161 => ?_)
        have lo162 : w.heap.size ≤ b156 := by have := ((SG.belowR c30 s35 (fun kq e => by cases e))).size; omega
        have ne163 : b2 ≠ b156 := by have := blk_lt x6; have := World.grownBy.size s35; omega
        have nb164 : Nb b156 (.slice A0_6 n0_6 c0_6) := nb_hi ho36 (Nat.le_of_eq hb158)
        have ho165 := own_kept ho36 k159
        refine W.sn (fun b => .slice (some ⟨b, 0, none⟩) 1 1) #[.int .i64 x37.node] 3 s161 rfl (by kernel_rfl) rfl (fun _ => by kernel_rfl) (fun b166 w167 hb168 k169 x170 s171 => ?_)
        have lo172 : w.heap.size ≤ b166 := by have := ((SG.belowR c30 s161 (fun kq e => by cases e))).size; omega
        have ne173 : b2 ≠ b166 := by have := blk_lt x6; have := World.grownBy.size s161; omega
        have ne174 : b156 ≠ b166 := by have := blk_lt x160; omega
        have nb175 : Nb b166 (.slice A0_6 n0_6 c0_6) := nb_hi ho165 (Nat.le_of_eq hb168)
        have x160 := (k169.block _ (blk_lt x160)).trans x160
        have ho176 := own_kept ho165 k169
        obtain ⟨kz, pz, ekz, hkz, hpz, hnz⟩ := hv9.place x37 (List.mem_of_getElem? hx38)
        have hgz := hg.at hpz
        have ho177 := own_blk (base := w.heap.size) (size := 1) (n := 1) x170 lo172 rfl (by omega)
        replace ho177 : World.ownsRow _ _ _ _ _ _ (intsV [x37.node]) := ho177
        have nr178 : NbR (.slice (some ⟨b166, 0, none⟩) 1 1) (.slice A0_6 n0_6 c0_6) := nbr_new nb175
        have nb179 : Nb b2 (.slice (some ⟨b166, 0, none⟩) 1 1) := nb_new (by have := ne173; omega)
        have nb180 : Nb b156 (.slice (some ⟨b166, 0, none⟩) 1 1) := nb_new (by have := ne174; omega)
        have rd182 := own_rd ho177
        have hl183 := rd_ints_len rd182
        have ho184 := own_empty (base := w.heap.size) (size := 1) x160 lo162
        replace ho184 : World.ownsRow _ _ _ _ _ _ (intsV []) := ho184
        have nr185 : NbR (.slice (some ⟨b156, 0, none⟩) 0 0) (.slice A0_6 n0_6 c0_6) := nbr_new nb164
        have nb186 : Nb b2 (.slice (some ⟨b156, 0, none⟩) 0 0) := nb_new (by have := ne163; omega)
        have rd188 := own_rd ho184
        have hl189 := rd_ints_len rd188
        refine W.sc (vs := [.agg #[.int .i64 m, .slice A n c], .slice A2 n2 c2, .bool false, .slice (some ⟨b166, 0, none⟩) 1 1, .slice (some ⟨b156, 0, none⟩) 0 0]) rfl rfl (by kernel_rfl) (by kernel_rfl) (by kernel_rfl) rfl (l4Spread_false m A n c ps A2 n2 c2 vs (x37.node) (some ⟨b166, 0, none⟩) 1 1 ([x37.node]) (some ⟨b156, 0, none⟩) 0 0 ([]) _ (Rd.kept ha (SG.belowR c30 s171 (fun kq e => by cases e))) (Rd.kept hb (SG.belowR c30 s171 (fun kq e => by cases e))) (by omega) (by omega) hp (by omega) (by omega) rd182 (own_fm ho177) rd188 (own_fm ho184) (FndQ.startN _ (by omega))) ?_
        rintro e w205 ⟨A190, n191, c192, A193, n194, c195, rfl, rd196, fm197, rd198, fm199, b204⟩
        have s206 := SG.of_below s171 b204
        refine ⟨_, rfl, s206, ?_⟩
        have ho207 := own_kept ho176 b204
        have rd208 := Rd.kept rd182 b204
        have rd209 := Rd.kept rd188 b204
        have hl202 := rd_ints_len rd196
        have hl203 := rd_ints_len rd198
        have := nodesL_len (linked ps (openQ vs false)) m.toNat (x37.node) true
        have := idxL_len (linked ps (openQ vs false)) ps.length (x37.node) true
        refine W.sq (v := .tuple #[.slice A190 n191 c192, .slice A193 n194 c195]) rfl (r_move rfl (by kernel_rfl)) (by kernel_rfl) rfl rfl ?_
        refine W.sq (v := .slice A190 n191 c192) rfl (r_extract (vs := #[.slice A190 n191 c192, .slice A193 n194 c195]) rfl (by kernel_rfl) (by kernel_rfl)) (by kernel_rfl) rfl rfl ?_
        refine W.sq (v := .slice A193 n194 c195) rfl (r_extract (vs := #[.slice A190 n191 c192, .slice A193 n194 c195]) rfl (by kernel_rfl) (by kernel_rfl)) (by kernel_rfl) rfl rfl ?_
        refine W.sq (v := .slice A190 n191 c192) rfl (r_assign rfl (by kernel_rfl)) (by kernel_rfl) rfl rfl ?_
        refine W.sq (v := .slice A193 n194 c195) rfl (r_assign rfl (by kernel_rfl)) (by kernel_rfl) rfl rfl ?_
        refine W.sch_endU (fun U210 => [.agg #[.int .i64 m, .slice A n c], .slice A2 n2 c2, .pointer (some ⟨b2, 0, none⟩), undef, .slice none 0 0, .bool false, .slice A0_6 n0_6 c0_6, .int .i64 ((i : Nat) : Int), U210 8, .slice A193 n194 c195, (U19 10), (U26 11), (U26 12), (U26 13), .bool false, undef, (U32 16), (U32 17), (U32 18), .bool true, (U0 20), (U0 21), U210 22, U210 23, U210 24, U210 25, U210 26, U210 27, U210 28, U210 29, U210 30, U210 31, U210 32, U210 33, U210 34, (U0 35), (U0 36), (U0 37), (U0 38), (U0 39), (U0 40), (U0 41), (U0 42), (U0 43), (U0 44), (U0 45), (U0 46), (U0 47), (U0 48), (U0 49), (U0 50), (U0 51), undef]) (by kernel_rfl) (fun U210 => ?_)
        have x6 := SG.blk s206 x6 (by simp)
        have c211 := (SG.belowR c30 s206 (fun kq e => by cases e))
        refine h11 _ _ ?_
        refine wp_seq_k (fun K13 h13 => ?_)
        refine W.region_sch (row := none) (Sch.of [(0, false), (1, false), (2, false), (3, false), (4, false), (5, false), (6, false), (7, true), (8, true)]) (by kernel_rfl) (by kernel_rfl) (fun _ d _ _ _ h => by cases d <;> exact h) (by kernel_rfl) (fun w212 e213 s214 => ?_)
        have ho215 := own_heap ho207 e213
        refine W.sq (v := .slice A193 n194 c195) rfl (r_move rfl (by kernel_rfl)) (by kernel_rfl) rfl rfl ?_
        refine W.sq (v := .agg #[.int .i64 m, .slice A n c]) rfl (r_load2 rfl (by kernel_rfl) (by kernel_rfl) (by kernel_rfl) (sgS (blk_cell (j := 0) x6 (by kernel_rfl)) (by simp)) (sgS (blk_cell (j := 1) x6 (by kernel_rfl)) (by simp))) (by kernel_rfl) rfl rfl ?_
        refine W.sq (v := .slice A2 n2 c2) rfl (r_move rfl (by kernel_rfl)) (by kernel_rfl) rfl rfl ?_
        refine W.sq (v := .int .i64 ((i : Nat) : Int)) rfl (r_move rfl (by kernel_rfl)) (by kernel_rfl) rfl rfl ?_
        refine W.sq (v := .pointer (some ⟨b39, o40 + i * 4, none⟩)) rfl (r_idx (n := n2) (c := c2) (k := i) rfl (by kernel_rfl) hA41 (by kernel_rfl) (by kernel_rfl) (by have := hl2; omega)) (by kernel_rfl) rfl rfl ?_
        refine W.sq (v := .pointer (some ⟨b39, o40 + i * 4 + 1, none⟩)) rfl (r_field (k := 1) rfl (by kernel_rfl) (by kernel_rfl)) (by kernel_rfl) rfl rfl ?_
        refine W.sq (v := .int .i64 x37.pipe) rfl (r_load rfl (by kernel_rfl) (by kernel_rfl) (sgS (later c211 hc44) (by simp))) (by kernel_rfl) rfl rfl ?_
        refine W.sc (vs := [.agg #[.int .i64 m, .slice A n c], .int .i64 x37.pipe]) rfl rfl (by kernel_rfl) (by kernel_rfl) (by kernel_rfl) rfl (l2Find_any m A n c ps x37.pipe _ (Rd.kept ha (SG.belowR c211 s214 (fun kq e => by cases e))) (by omega)) ?_
        rintro e w217 ⟨rfl, b216⟩
        have s218 := SG.of_below s214 b216
        refine ⟨_, rfl, s218, ?_⟩
        have ho219 := own_kept ho215 b216
        refine W.sc (vs := [.slice A193 n194 c195, .int .i64 (findL ps x37.pipe)]) rfl rfl (by kernel_rfl) (by kernel_rfl) (by kernel_rfl) rfl (l1Has_any A193 n194 c195 (idxL (linked ps (openQ vs false)) ps.length (x37.node) true) (findL ps x37.pipe) _ (Rd.kept rd198 (SG.below s218)) (by omega)) ?_
        rintro e w221 ⟨rfl, b220⟩
        have s222 := SG.of_below s218 b220
        refine ⟨_, rfl, s222, ?_⟩
        have ho223 := own_kept ho219 b220
        rcases Bool.eq_false_or_eq_true ((idxL (linked ps (openQ vs false)) ps.length (x37.node) true).contains (findL ps x37.pipe)) with q224 | q224
        · rw [q224]
          refine W.sch_endU (fun U225 => [.agg #[.int .i64 m, .slice A n c], .slice A2 n2 c2, .pointer (some ⟨b2, 0, none⟩), undef, .slice none 0 0, .bool false, .slice A0_6 n0_6 c0_6, .int .i64 ((i : Nat) : Int), (U210 8), .slice A193 n194 c195, (U19 10), (U26 11), (U26 12), (U26 13), .bool false, undef, (U32 16), (U32 17), (U32 18), .bool true, (U0 20), (U0 21), (U210 22), (U210 23), (U210 24), (U210 25), (U210 26), (U210 27), (U210 28), (U210 29), (U210 30), (U210 31), (U210 32), (U210 33), (U210 34), U225 35, U225 36, U225 37, U225 38, U225 39, U225 40, U225 41, U225 42, .bool true, (U0 44), (U0 45), (U0 46), (U0 47), (U0 48), (U0 49), (U0 50), (U0 51), undef]) (by kernel_rfl) (fun U225 => ?_)
          have x6 := SG.blk s222 x6 (by simp)
          have c226 := (SG.belowR c211 s222 (fun kq e => by cases e))
          have rd227 := Rd.kept rd208 (SG.below s222)
          have rd228 := Rd.kept rd209 (SG.below s222)
          have rd229 := Rd.kept rd196 (SG.below s222)
          have rd230 := Rd.kept rd198 (SG.below s222)
          refine h13 _ _ ?_
          refine wp_cond_true (by kernel_rfl) ?_
          refine W.region_plain (row := (Value.ownBlock (.slice A0_6 n0_6 c0_6))) [(0, false), (1, false), (2, false), (3, false), (4, false), (5, false), (6, true), (7, true), (8, false)] (by kernel_rfl) ?_
          have s231 := SG.self w221 (Value.ownBlock (.slice A0_6 n0_6 c0_6))
          refine W.sq (v := .slice A0_6 n0_6 c0_6) rfl (r_move rfl (by kernel_rfl)) (by kernel_rfl) rfl rfl ?_
          refine W.sq (v := .slice A2 n2 c2) rfl (r_move rfl (by kernel_rfl)) (by kernel_rfl) rfl rfl ?_
          refine W.sq (v := .int .i64 ((i : Nat) : Int)) rfl (r_move rfl (by kernel_rfl)) (by kernel_rfl) rfl rfl ?_
          refine W.sq (v := .pointer (some ⟨b39, o40 + i * 4, none⟩)) rfl (r_idx (n := n2) (c := c2) (k := i) rfl (by kernel_rfl) hA41 (by kernel_rfl) (by kernel_rfl) (by have := hl2; omega)) (by kernel_rfl) rfl rfl ?_
          refine W.sq (v := .pointer (some ⟨b39, o40 + i * 4, none⟩)) rfl (r_field0 rfl (by kernel_rfl) (by kernel_rfl)) (by kernel_rfl) rfl rfl ?_
          refine W.sq (v := .int .i64 x37.id) rfl (r_load rfl (by kernel_rfl) (by kernel_rfl) (sgS (later c226 hc43) (nb_lo ho223 hb42))) (by kernel_rfl) rfl rfl ?_
          refine W.sn (fun b => .slice (some ⟨b, 0, none⟩) 1 1) #[.int .i64 x37.id] 3 s231 rfl (by kernel_rfl) rfl (fun _ => by kernel_rfl) (fun b232 w233 hb234 k235 x236 s237 => ?_)
          have lo238 : w.heap.size ≤ b232 := by have := ((SG.belowR c226 s231 (fun kq e => (World.ownsRow.lt ho223 kq e).1))).size; omega
          have sp239 : Sp A193 n194 (some b232) := sp_new rd230 (by have := World.grownBy.size s231; have := hb234; omega)
          have ne240 : b2 ≠ b232 := by have := blk_lt x6; have := World.grownBy.size s231; omega
          have nb241 : Nb b232 (.slice A0_6 n0_6 c0_6) := nb_hi ho223 (Nat.le_of_eq hb234)
          have ho242 := own_kept ho223 k235
          refine W.sap (e := 3) (size := 1) (base := w.heap.size) (m := 1) (v := .slice A0_6 n0_6 c0_6) (c := 1) s237 rfl rfl rfl rfl (by kernel_rfl) (by kernel_rfl) (by kernel_rfl) ho242 x236 (by kernel_rfl) (by kernel_rfl) (by omega) (by omega) (by have := ((SG.belowR c226 s237 (fun kq e => (World.ownsRow.lt ho223 kq e).1))).size; omega) (.inl rfl) (fun g243 cap244 w245 ho246 hg247 hat248 hlt249 s250 => ?_)
          have nb251 : Nb b2 (.slice (some ⟨g243, 0, none⟩) (n0_6 + 1) cap244) := nb_app nb0_6_b2 (Nat.lt_of_lt_of_le (blk_lt x6) (World.grownBy.size s237)) hat248
          have nb252 : Nb b232 (.slice (some ⟨g243, 0, none⟩) (n0_6 + 1) cap244) := nb_app nb241 (blk_lt x236) hat248
          have x236 := (hg247.block _ (blk_lt x236) nb241).trans x236
          have ho246 := own_snoc ho246
          refine W.sq (v := .slice (some ⟨g243, 0, none⟩) (n0_6 + 1) cap244) rfl (r_assign rfl (by kernel_rfl)) (by kernel_rfl) rfl rfl ?_
          refine W.sch_endU (fun U253 => [.agg #[.int .i64 m, .slice A n c], .slice A2 n2 c2, .pointer (some ⟨b2, 0, none⟩), undef, .slice none 0 0, .bool false, .slice (some ⟨g243, 0, none⟩) (n0_6 + 1) cap244, .int .i64 ((i : Nat) : Int), (U210 8), .slice A193 n194 c195, (U19 10), (U26 11), (U26 12), (U26 13), .bool false, undef, (U32 16), (U32 17), (U32 18), .bool true, (U0 20), (U0 21), (U210 22), (U210 23), (U210 24), (U210 25), (U210 26), (U210 27), (U210 28), (U210 29), (U210 30), (U210 31), (U210 32), (U210 33), (U210 34), (U225 35), (U225 36), (U225 37), (U225 38), (U225 39), (U225 40), (U225 41), (U225 42), .bool true, U253 44, U253 45, U253 46, U253 47, U253 48, U253 49, U253 50, U253 51, undef]) (by kernel_rfl) (fun U253 => ?_)
          have x6 := SG.blk s250 x6 nb0_6_b2
          have c254 := (SG.belowR c226 s250 (fun kq e => (World.ownsRow.lt ho223 kq e).1))
          have rd255 := rd_nbr rd227 s250 nr178
          have rd256 := rd_nbr rd228 s250 nr185
          refine h10 _ _ ?_
          refine W.region_quiet [(0, false), (1, false), (2, false)] (by kernel_rfl) ?_
          refine W.sq (v := .int .i64 ((i : Nat) : Int)) rfl (r_move rfl (by kernel_rfl)) (by kernel_rfl) rfl rfl ?_
          refine W.sq (v := .int .i64 ((i + 1 : Nat) : Int)) rfl (r_add (m := ((i : Nat) : Int)) (n := 1) (z := ((i + 1 : Nat) : Int)) rfl (by kernel_rfl) (by kernel_rfl) (by omega) (by omega)) (by kernel_rfl) rfl rfl ?_
          refine W.sq (v := .int .i64 ((i + 1 : Nat) : Int)) rfl (r_assign rfl (by kernel_rfl)) (by kernel_rfl) rfl rfl ?_
          refine W.sch_endU (fun U257 => [.agg #[.int .i64 m, .slice A n c], .slice A2 n2 c2, .pointer (some ⟨b2, 0, none⟩), undef, .slice none 0 0, .bool false, .slice (some ⟨g243, 0, none⟩) (n0_6 + 1) cap244, .int .i64 ((i + 1 : Nat) : Int), (U210 8), .slice A193 n194 c195, (U19 10), (U26 11), (U26 12), (U26 13), .bool false, undef, (U32 16), (U32 17), (U32 18), .bool true, U257 20, U257 21, (U210 22), (U210 23), (U210 24), (U210 25), (U210 26), (U210 27), (U210 28), (U210 29), (U210 30), (U210 31), (U210 32), (U210 33), (U210 34), (U225 35), (U225 36), (U225 37), (U225 38), (U225 39), (U225 40), (U225 41), (U225 42), .bool true, (U253 44), (U253 45), (U253 46), (U253 47), (U253 48), (U253 49), (U253 50), (U253 51), undef]) (by kernel_rfl) (fun U257 => ?_)
          exact h7 _ _ _ (by omega : (n2 - (i + 1)) < _) ⟨i + 1, (some ⟨g243, 0, none⟩), (n0_6 + 1), cap244, (fun iU9 => [.agg #[.int .i64 m, .slice A n c], .slice A2 n2 c2, .pointer (some ⟨b2, 0, none⟩), undef, .slice none 0 0, .bool false, .slice (some ⟨g243, 0, none⟩) (n0_6 + 1) cap244, .int .i64 ((i + 1 : Nat) : Int), (U210 8), .slice A193 n194 c195, (U19 10), (U26 11), (U26 12), (U26 13), .bool false, undef, (U32 16), (U32 17), (U32 18), .bool true, (U257 20), (U257 21), (U210 22), (U210 23), (U210 24), (U210 25), (U210 26), (U210 27), (U210 28), (U210 29), (U210 30), (U210 31), (U210 32), (U210 33), (U210 34), (U225 35), (U225 36), (U225 37), (U225 38), (U225 39), (U225 40), (U225 41), (U225 42), .bool true, (U253 44), (U253 45), (U253 46), (U253 47), (U253 48), (U253 49), (U253 50), (U253 51), undef].getD iU9 undef), (by kernel_rfl), rfl, (by omega), (by omega), x6, (by rw [needL_yes hx38 ((idxL_has (n := ps.length) (by omega)).symm.trans q224)]; exact ho246), nb251, c254⟩
        · rw [q224]
          refine W.sch_endU (fun U258 => [.agg #[.int .i64 m, .slice A n c], .slice A2 n2 c2, .pointer (some ⟨b2, 0, none⟩), undef, .slice none 0 0, .bool false, .slice A0_6 n0_6 c0_6, .int .i64 ((i : Nat) : Int), (U210 8), .slice A193 n194 c195, (U19 10), (U26 11), (U26 12), (U26 13), .bool false, undef, (U32 16), (U32 17), (U32 18), .bool true, (U0 20), (U0 21), (U210 22), (U210 23), (U210 24), (U210 25), (U210 26), (U210 27), (U210 28), (U210 29), (U210 30), (U210 31), (U210 32), (U210 33), (U210 34), U258 35, U258 36, U258 37, U258 38, U258 39, U258 40, U258 41, U258 42, .bool false, (U0 44), (U0 45), (U0 46), (U0 47), (U0 48), (U0 49), (U0 50), (U0 51), undef]) (by kernel_rfl) (fun U258 => ?_)
          have x6 := SG.blk s222 x6 (by simp)
          have c259 := (SG.belowR c211 s222 (fun kq e => by cases e))
          have rd260 := Rd.kept rd208 (SG.below s222)
          have rd261 := Rd.kept rd209 (SG.below s222)
          have rd262 := Rd.kept rd196 (SG.below s222)
          have rd263 := Rd.kept rd198 (SG.below s222)
          refine h13 _ _ ?_
          refine wp_cond_false (by kernel_rfl) ?_
          refine wp_skip ?_
          refine h10 _ _ ?_
          refine W.region_quiet [(0, false), (1, false), (2, false)] (by kernel_rfl) ?_
          refine W.sq (v := .int .i64 ((i : Nat) : Int)) rfl (r_move rfl (by kernel_rfl)) (by kernel_rfl) rfl rfl ?_
          refine W.sq (v := .int .i64 ((i + 1 : Nat) : Int)) rfl (r_add (m := ((i : Nat) : Int)) (n := 1) (z := ((i + 1 : Nat) : Int)) rfl (by kernel_rfl) (by kernel_rfl) (by omega) (by omega)) (by kernel_rfl) rfl rfl ?_
          refine W.sq (v := .int .i64 ((i + 1 : Nat) : Int)) rfl (r_assign rfl (by kernel_rfl)) (by kernel_rfl) rfl rfl ?_
          refine W.sch_endU (fun U264 => [.agg #[.int .i64 m, .slice A n c], .slice A2 n2 c2, .pointer (some ⟨b2, 0, none⟩), undef, .slice none 0 0, .bool false, .slice A0_6 n0_6 c0_6, .int .i64 ((i + 1 : Nat) : Int), (U210 8), .slice A193 n194 c195, (U19 10), (U26 11), (U26 12), (U26 13), .bool false, undef, (U32 16), (U32 17), (U32 18), .bool true, U264 20, U264 21, (U210 22), (U210 23), (U210 24), (U210 25), (U210 26), (U210 27), (U210 28), (U210 29), (U210 30), (U210 31), (U210 32), (U210 33), (U210 34), (U258 35), (U258 36), (U258 37), (U258 38), (U258 39), (U258 40), (U258 41), (U258 42), .bool false, (U0 44), (U0 45), (U0 46), (U0 47), (U0 48), (U0 49), (U0 50), (U0 51), undef]) (by kernel_rfl) (fun U264 => ?_)
          exact h7 _ _ _ (by omega : (n2 - (i + 1)) < _) ⟨i + 1, A0_6, n0_6, c0_6, (fun iU9 => [.agg #[.int .i64 m, .slice A n c], .slice A2 n2 c2, .pointer (some ⟨b2, 0, none⟩), undef, .slice none 0 0, .bool false, .slice A0_6 n0_6 c0_6, .int .i64 ((i + 1 : Nat) : Int), (U210 8), .slice A193 n194 c195, (U19 10), (U26 11), (U26 12), (U26 13), .bool false, undef, (U32 16), (U32 17), (U32 18), .bool true, (U264 20), (U264 21), (U210 22), (U210 23), (U210 24), (U210 25), (U210 26), (U210 27), (U210 28), (U210 29), (U210 30), (U210 31), (U210 32), (U210 33), (U210 34), (U258 35), (U258 36), (U258 37), (U258 38), (U258 39), (U258 40), (U258 41), (U258 42), .bool false, (U0 44), (U0 45), (U0 46), (U0 47), (U0 48), (U0 49), (U0 50), (U0 51), undef].getD iU9 undef), (by kernel_rfl), rfl, (by omega), (by omega), x6, (by rw [needL_no hx38 ((idxL_has (n := ps.length) (by omega)).symm.trans q224)]; exact ho223), nb0_6_b2, c259⟩
    · refine W.sq (v := .bool false) rfl (r_lss (m := ((i : Nat) : Int)) (n := ((n2 : Nat) : Int)) rfl (by kernel_rfl) (by kernel_rfl) (decide_eq_false q31)) (by kernel_rfl) rfl rfl ?_
      refine W.sch_endU (fun U265 => [.agg #[.int .i64 m, .slice A n c], .slice A2 n2 c2, .pointer (some ⟨b2, 0, none⟩), undef, .slice none 0 0, .bool false, .slice A0_6 n0_6 c0_6, .int .i64 ((i : Nat) : Int), (U0 8), (U0 9), (U19 10), (U26 11), (U26 12), (U26 13), .bool false, undef, U265 16, U265 17, U265 18, .bool false, (U0 20), (U0 21), (U0 22), (U0 23), (U0 24), (U0 25), (U0 26), (U0 27), (U0 28), (U0 29), (U0 30), (U0 31), (U0 32), (U0 33), (U0 34), (U0 35), (U0 36), (U0 37), (U0 38), (U0 39), (U0 40), (U0 41), (U0 42), (U0 43), (U0 44), (U0 45), (U0 46), (U0 47), (U0 48), (U0 49), (U0 50), (U0 51), undef]) (by kernel_rfl) (fun U265 => ?_)
      refine h9 _ _ ?_
      refine wp_cond_false (by kernel_rfl) ?_
      refine wp_exit ?_
      refine h5 _ _ ?_
      refine wp_seq_k (fun K14 h14 => ?_)
      refine W.region_quiet [(0, false), (1, false), (2, false)] (by kernel_rfl) ?_
      refine W.sq (v := .slice A0_6 n0_6 c0_6) rfl (r_move rfl (by kernel_rfl)) (by kernel_rfl) rfl rfl ?_
      refine W.sq (v := .slice A0_6 n0_6 c0_6) rfl (r_assign rfl (by kernel_rfl)) (by kernel_rfl) rfl rfl ?_
      refine W.sq (v := .bool true) rfl (r_assign rfl (by kernel_rfl)) (by kernel_rfl) rfl rfl ?_
      refine W.sch_endU (fun U266 => [.agg #[.int .i64 m, .slice A n c], .slice A2 n2 c2, .pointer (some ⟨b2, 0, none⟩), undef, .slice A0_6 n0_6 c0_6, .bool true, .slice A0_6 n0_6 c0_6, .int .i64 ((i : Nat) : Int), (U0 8), (U0 9), (U19 10), (U26 11), (U26 12), (U26 13), .bool false, undef, (U265 16), (U265 17), (U265 18), .bool false, (U0 20), (U0 21), (U0 22), (U0 23), (U0 24), (U0 25), (U0 26), (U0 27), (U0 28), (U0 29), (U0 30), (U0 31), (U0 32), (U0 33), (U0 34), (U0 35), (U0 36), (U0 37), (U0 38), (U0 39), (U0 40), (U0 41), (U0 42), (U0 43), (U0 44), (U0 45), (U0 46), (U0 47), (U0 48), (U0 49), (U0 50), (U0 51), U266 52]) (by kernel_rfl) (fun U266 => ?_)
      refine h14 _ _ ?_
      refine wp_ret ?_
      try simp only [Exit.then]
      refine ret2 (v := .slice A0_6 n0_6 c0_6) (x := .bool true) rfl (by kernel_rfl) (by kernel_rfl) ?_
      exact fin_rd  (own_rd ho0_6) (by unfold NeedlessValves_v0; rw [if_pos q25, List.take_of_length_le (by omega)]) (by unfold NeedlessValves_v1; exact q25.symm) c30
  · rw [q25]
    refine W.sq (v := .bool true) rfl (r_not (b := false) rfl (by kernel_rfl) rfl) (by kernel_rfl) rfl rfl ?_
    refine W.sch_endU (fun U267 => [.agg #[.int .i64 m, .slice A n c], .slice A2 n2 c2, .pointer (some ⟨b2, 0, none⟩), undef, .slice none 0 0, .bool false, .slice (some ⟨b11, 0, none⟩) 0 0, undef, undef, undef, (U19 10), U267 11, U267 12, U267 13, .bool true, undef, undef, undef, undef, undef, undef, undef, undef, undef, undef, undef, undef, undef, undef, undef, undef, undef, undef, undef, undef, undef, undef, undef, undef, undef, undef, undef, undef, undef, undef, undef, undef, undef, undef, undef, undef, undef, undef]) (by kernel_rfl) (fun U267 => ?_)
    have x6 := SG.blk s24 x6 (by simp)
    have x15 := SG.blk s24 x15 (by simp)
    have c268 := (SG.belowR c20 s24 (fun kq e => by cases e))
    refine h4 _ _ ?_
    refine wp_cond_true (by kernel_rfl) ?_
    refine wp_seq_k (fun K15 h15 => ?_)
    refine W.region_quiet [(0, false), (1, false), (2, false)] (by kernel_rfl) ?_
    refine W.sq (v := .slice (some ⟨b11, 0, none⟩) 0 0) rfl (r_move rfl (by kernel_rfl)) (by kernel_rfl) rfl rfl ?_
    refine W.sq (v := .slice (some ⟨b11, 0, none⟩) 0 0) rfl (r_assign rfl (by kernel_rfl)) (by kernel_rfl) rfl rfl ?_
    refine W.sq (v := .bool false) rfl (r_assign rfl (by kernel_rfl)) (by kernel_rfl) rfl rfl ?_
    refine W.sch_endU (fun U269 => [.agg #[.int .i64 m, .slice A n c], .slice A2 n2 c2, .pointer (some ⟨b2, 0, none⟩), undef, .slice (some ⟨b11, 0, none⟩) 0 0, .bool false, .slice (some ⟨b11, 0, none⟩) 0 0, undef, undef, undef, (U19 10), (U267 11), (U267 12), (U267 13), .bool true, U269 15, undef, undef, undef, undef, undef, undef, undef, undef, undef, undef, undef, undef, undef, undef, undef, undef, undef, undef, undef, undef, undef, undef, undef, undef, undef, undef, undef, undef, undef, undef, undef, undef, undef, undef, undef, undef, undef]) (by kernel_rfl) (fun U269 => ?_)
    refine h15 _ _ ?_
    refine wp_ret ?_
    try simp only [Exit.then]
    refine ret2 (v := .slice (some ⟨b11, 0, none⟩) 0 0) (x := .bool false) rfl (by kernel_rfl) (by kernel_rfl) ?_
    have ho270 := own_empty (base := w.heap.size) (size := 1) x15 lo17
    replace ho270 : World.ownsRow _ _ _ _ _ _ (intsV []) := ho270
    have nb271 : Nb b2 (.slice (some ⟨b11, 0, none⟩) 0 0) := nb_new (by have := ne18; omega)
    exact fin_rd (zs := []) (own_rd ho270) (by unfold NeedlessValves_v0; rw [if_neg (by rw [q25]; simp)]) (by unfold NeedlessValves_v1; exact q25.symm) c268

end Go.Proofs.Ythdmbndndfiidaa
