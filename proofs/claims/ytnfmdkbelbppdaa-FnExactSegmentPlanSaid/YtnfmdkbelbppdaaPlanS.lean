/- A segment's plan: both packages answer alike. -/
import Derived.Test.YtnfmdkbelbppdaaPlanP
import Derived.Test.YtnfmdkbelbppdaaVAround
namespace Go.Proofs.Ytnfmdkbelbppdaa
open Go.RowKit
set_option linter.unusedVariables false
set_option linter.unusedSimpArgs false

/-- The numbers of the open valves at indices. -/
def segIds (vs : List Vv) (xs : List Int) : List Int := idsV vs (xs.filter (fun i => match vs[i.toNat]? with | some v => !v.shut | none => false))
theorem segIds_yes {vs : List Vv} {xs : List Int} {i : Nat} {y : Int} {v : Vv} (hy : xs[i]? = some y) (hv : vs[y.toNat]? = some v) (h : v.shut = false) : segIds vs (xs.take (i + 1)) = segIds vs (xs.take i) ++ [v.id] := by
  unfold segIds idsV; rw [List.take_add_one, hy, List.filter_append, List.map_append]; simp [hv, h]
theorem segIds_no {vs : List Vv} {xs : List Int} {i : Nat} {y : Int} {v : Vv} (hy : xs[i]? = some y) (hv : vs[y.toNat]? = some v) (h : v.shut = true) : segIds vs (xs.take (i + 1)) = segIds vs (xs.take i) := by
  unfold segIds idsV; rw [List.take_add_one, hy, List.filter_append, List.map_append]; simp [hv, h]
theorem segIds_len (vs : List Vv) (xs : List Int) : (segIds vs xs).length ≤ xs.length := by
  unfold segIds; rw [idsV_len]; exact List.length_filter_le _ _
theorem idsV_at {vs : List Vv} {xs : List Int} {i : Nat} {y : Int} {v : Vv} (hy : xs[i]? = some y) (hv : vs[y.toNat]? = some v) : (idsV vs xs)[i]? = some v.id := by simp [idsV, hy, hv]
noncomputable def segPlan (ps : List Pp) (vs : List Vv) (id : Int) : List Int := segIds vs (aroundI ps vs (9 + findL ps id) vs.length)
noncomputable def SegmentPlan_v1 (m : Int) (ps : List Pp) (vs : List Vv) (s id : Int) : Bool := canB m ps vs s id && cutB ps vs s id (segPlan ps vs id)
noncomputable def SegmentPlan_v0 (m : Int) (ps : List Pp) (vs : List Vv) (s id : Int) : List Int := if SegmentPlan_v1 m ps vs s id = true then segPlan ps vs id else []
theorem SegmentPlan_len (m : Int) (ps : List Pp) (vs : List Vv) (s id : Int) : (SegmentPlan_v0 m ps vs s id).length ≤ 1048576 := by
  unfold SegmentPlan_v0
  split
  · rename_i h
    have hc : canB m ps vs s id = true := by unfold SegmentPlan_v1 at h; rw [Bool.and_eq_true] at h; exact h.1
    have := (canB_of hc).1.len
    have := segIds_len vs (aroundI ps vs (9 + findL ps id) vs.length)
    have := aroundI_len ps vs (9 + findL ps id) vs.length
    unfold segPlan
    omega
  · simp

set_option maxRecDepth 100000 in
set_option maxHeartbeats 1000000 in
theorem SegmentPlan_impl (m : Int) (A : Option Addr) (n c : Nat) (ps : List Pp) (A2 : Option Addr) (n2 c2 : Nat) (vs : List Vv) (s id : Int) (w : World) (ha : Rd w 4 A n (pipesV ps)) (hb : Rd w 4 A2 n2 (valvesV vs)) (hn : n ≤ 1048576) (hn2 : n2 ≤ 1048576) (hfm : Fm A n c) (hfm2 : Fm A2 n2 c2) :
    Calls Try.prog 34 #[.agg #[.int .i64 m, .slice A n c], .slice A2 n2 c2, .int .i64 s, .int .i64 id] w fun e w' => ∃ A' d, e = .returned (.tuple #[.slice A' (SegmentPlan_v0 m ps vs s id).length d, .bool (SegmentPlan_v1 m ps vs s id)]) ∧ w'.ownsRow w.heap.size 3 1 (.slice A' (SegmentPlan_v0 m ps vs s id).length d) (SegmentPlan_v0 m ps vs s id).length (intsV (SegmentPlan_v0 m ps vs s id)) ∧ Below w.heap.size w w' := by
  have hl := rd_pipes_len ha
  have hl2 := rd_valves_len hb
  have hfl := findL_lt ps id
  go_enter Try.func34, Try.ntmps34
  refine wp_seq_k (fun K1 h1 => ?_)
  refine W.region_plain (row := none) [(0, true), (1, false), (2, false)] (by kernel_rfl) ?_
  have s1 := SG.self w none
  refine W.sn (fun b => .pointer (some ⟨b, 0, none⟩)) #[.int .i64 m, .slice A n c] 32 s1 rfl (by kernel_rfl) rfl (fun _ => by kernel_rfl) (fun b2 w3 hb4 k5 x6 s7 => ?_)
  have lo8 : w.heap.size ≤ b2 := by have := ((SG.belowR (Below.refl _ _) s1 (fun kq e => by cases e))).size; omega
  refine W.as (v := .slice none 0 0) (h := ?_)
  refine W.as (v := .bool false) (h := ?_)
  refine W.endF 52 [(0, .agg #[.int .i64 m, .slice A n c]), (1, .slice A2 n2 c2), (2, .int .i64 s), (3, .int .i64 id), (4, .pointer (some ⟨b2, 0, none⟩)), (8, .slice none 0 0), (9, .bool false)] (fun U9 => ?_)
  have c10 := (SG.belowR (Below.refl _ _) s7 (fun kq e => by cases e))
  refine h1 _ _ ?_
  refine wp_seq_k (fun K2 h2 => ?_)
  refine wp_seq_k (fun K3 h3 => ?_)
  refine W.region_plain (row := none) [(0, false), (1, false), (2, false), (3, false), (4, true), (5, false)] (by kernel_rfl) ?_
  have s11 := SG.self w3 none
  refine W.q (v := .agg #[.int .i64 m, .slice A n c]) (hr := (r_load2 rfl (by kernel_rfl) (by kernel_rfl) (by kernel_rfl) (sgS (blk_cell (j := 0) x6 (by kernel_rfl)) (by simp)) (sgS (blk_cell (j := 1) x6 (by kernel_rfl)) (by simp)))) (h := ?_)
  refine W.mv (v := .slice A2 n2 c2) (h := ?_)
  refine W.mv (v := .int .i64 s) (h := ?_)
  refine W.mv (v := .int .i64 id) (h := ?_)
  refine W.sc (vs := [.agg #[.int .i64 m, .slice A n c], .slice A2 n2 c2, .int .i64 s, .int .i64 id]) rfl rfl (by kernel_rfl) (by kernel_rfl) (by kernel_rfl) rfl (canBurst_any m A n c ps A2 n2 c2 vs s id _ (Rd.kept ha (SG.belowR c10 s11 (fun kq e => by cases e))) (Rd.kept hb (SG.belowR c10 s11 (fun kq e => by cases e))) (by omega) (by omega) hfm2) ?_
  rintro e w13 ⟨rfl, b12⟩
  have s14 := SG.of_below s11 b12
  refine ⟨_, rfl, s14, ?_⟩
  rcases Bool.eq_false_or_eq_true (canB m ps vs s id) with q15 | q15
  · rw [q15]
    obtain ⟨hv9, hs, hfa⟩ := canB_of q15
    have hg := hv9.net
    have hgl := hg.lo
    have hgh := hg.hi
    have hp := hg.pipesIn
    have hlen10 := hg.len
    have hu := hv9.uniq
    have hvl := hv9.len
    refine W.q (v := .bool false) (hr := (r_not (b := true) rfl (by kernel_rfl) rfl)) (h := ?_)
    refine W.endF 52 [(0, .agg #[.int .i64 m, .slice A n c]), (1, .slice A2 n2 c2), (2, .int .i64 s), (3, .int .i64 id), (4, .pointer (some ⟨b2, 0, none⟩)), (8, .slice none 0 0), (9, .bool false), (18, .bool false)] (fun U16 => ?_)
    have x6 := SG.blk s14 x6 (by simp)
    have c17 := (SG.belowR c10 s14 (fun kq e => by cases e))
    refine h3 _ _ ?_
    refine wp_cond_false (by kernel_rfl) ?_
    refine wp_skip ?_
    refine h2 _ _ ?_
    refine wp_seq_k (fun K4 h4 => ?_)
    refine W.region_plain (row := none) [(0, true), (1, false)] (by kernel_rfl) ?_
    have s18 := SG.self w13 none
    refine W.sn (fun b => .slice (some ⟨b, 0, none⟩) 0 0) #[] 3 s18 rfl (by kernel_rfl) rfl (fun _ => by kernel_rfl) (fun b19 w20 hb21 k22 x23 s24 => ?_)
    have lo25 : w.heap.size ≤ b19 := by have := ((SG.belowR c17 s18 (fun kq e => by cases e))).size; omega
    have ne26 : b2 ≠ b19 := by have := blk_lt x6; have := World.grownBy.size s18; omega
    refine W.as (v := .slice (some ⟨b19, 0, none⟩) 0 0) (h := ?_)
    refine W.endF 52 [(0, .agg #[.int .i64 m, .slice A n c]), (1, .slice A2 n2 c2), (2, .int .i64 s), (3, .int .i64 id), (4, .pointer (some ⟨b2, 0, none⟩)), (8, .slice none 0 0), (9, .bool false), (10, .slice (some ⟨b19, 0, none⟩) 0 0), (18, .bool false)] (fun U27 => ?_)
    have x6 := SG.blk s24 x6 (by simp)
    have c28 := (SG.belowR c17 s24 (fun kq e => by cases e))
    refine h4 _ _ ?_
    refine wp_seq_k (fun K5 h5 => ?_)
    refine wp_seq_k (fun K6 h6 => ?_)
    refine W.region_plain (row := none) [(0, false), (1, false), (2, false), (3, true), (4, false), (5, false)] (by kernel_rfl) ?_
    have s29 := SG.self w20 none
    refine W.q (v := .agg #[.int .i64 m, .slice A n c]) (hr := (r_load2 rfl (by kernel_rfl) (by kernel_rfl) (by kernel_rfl) (sgS (blk_cell (j := 0) x6 (by kernel_rfl)) (by simp)) (sgS (blk_cell (j := 1) x6 (by kernel_rfl)) (by simp)))) (h := ?_)
    refine W.mv (v := .slice A2 n2 c2) (h := ?_)
    refine W.mv (v := .int .i64 id) (h := ?_)
    refine W.sc (vs := [.agg #[.int .i64 m, .slice A n c], .slice A2 n2 c2, .int .i64 id]) rfl rfl (by kernel_rfl) (by kernel_rfl) (by kernel_rfl) rfl (valvesAround_any m A n c ps A2 n2 c2 vs id _ (Rd.kept ha (SG.belowR c28 s29 (fun kq e => by cases e))) (Rd.kept hb (SG.belowR c28 s29 (fun kq e => by cases e))) (by omega) (by omega) hv9 (by omega)) ?_
    rintro e w39 ⟨A30, n31, c32, rfl, ho33, b38⟩
    have s40 := SG.of_below s29 b38
    refine ⟨_, rfl, s40, ?_⟩
    have rd34 := own_rd ho33
    have fm37 := own_fm ho33
    have hl35 := rd_ints_len rd34
    have sp41 := sp_freshB (g := b2) ho33 (Nat.lt_of_lt_of_le (blk_lt x6) (World.grownBy.size s29))
    have sp42 := sp_freshB (g := b19) ho33 (Nat.lt_of_lt_of_le (blk_lt x23) (World.grownBy.size s29))
    have := aroundI_len ps vs (9 + findL ps id) vs.length
    refine W.q (v := .int .i64 ((n31 : Nat) : Int)) (hr := (r_len (A := A30) (n := n31) (c := c32) rfl (by kernel_rfl) (by kernel_rfl))) (h := ?_)
    refine W.mv (v := .int .i64 0) (h := ?_)
    refine W.endF 52 [(0, .agg #[.int .i64 m, .slice A n c]), (1, .slice A2 n2 c2), (2, .int .i64 s), (3, .int .i64 id), (4, .pointer (some ⟨b2, 0, none⟩)), (8, .slice none 0 0), (9, .bool false), (10, .slice (some ⟨b19, 0, none⟩) 0 0), (18, .bool false), (23, .slice A30 n31 c32), (24, .int .i64 ((n31 : Nat) : Int)), (25, .int .i64 0)] (fun U43 => ?_)
    have x6 := SG.blk s40 x6 (by simp)
    have x23 := SG.blk s40 x23 (by simp)
    have c44 := (SG.belowR c28 s40 (fun kq e => by cases e))
    refine h6 _ _ ?_
    refine wp_block ?_
    have ho45 := own_empty (base := w.heap.size) (size := 1) x23 lo25
    replace ho45 : World.ownsRow _ _ _ _ _ _ (intsV []) := ho45
    have sp46 := sp_own (n' := 0) (c := 0) sp42
    have nb47 : Nb b2 (.slice (some ⟨b19, 0, none⟩) 0 0) := nb_new (by have := ne26; omega)
    refine loopK (fun am0 aa0 wl0 => ∃ (i : Nat) (A0_10 : Option Addr) (n0_10 : Nat) (c0_10 : Nat) (U0 : Nat → Value), aa0 = ⟨(fr U0 [(0, .agg #[.int .i64 m, .slice A n c]), (1, .slice A2 n2 c2), (2, .int .i64 s), (3, .int .i64 id), (4, .pointer (some ⟨b2, 0, none⟩)), (8, .slice none 0 0), (9, .bool false), (10, .slice A0_10 n0_10 c0_10), (18, .bool false), (23, .slice A30 n31 c32), (24, .int .i64 ((n31 : Nat) : Int)), (25, .int .i64 ((i : Nat) : Int))] 52 0).toArray, []⟩ ∧ (am0 = n31 - i) ∧ (i ≤ n31) ∧ (n0_10 ≤ i) ∧ (wl0.heap[b2]? = some (.cells #[.int .i64 m, .slice A n c] 32 (0, 0))) ∧ (wl0.ownsRow w.heap.size 3 1 (.slice A0_10 n0_10 c0_10) n0_10 (intsV (segIds vs ((aroundI ps vs (9 + findL ps id) vs.length).take i)))) ∧ (Nb b2 (.slice A0_10 n0_10 c0_10)) ∧ (Rd wl0 1 A30 n31 (intsV (aroundI ps vs (9 + findL ps id) vs.length))) ∧ (Sp A30 n31 (Value.ownBlock (.slice A0_10 n0_10 c0_10))) ∧ (Below w.heap.size w wl0)) (n31 - 0) ?_ ?_
    · exact ⟨0, (some ⟨b19, 0, none⟩), 0, 0, (fun iU9 => lk [(0, .agg #[.int .i64 m, .slice A n c]), (1, .slice A2 n2 c2), (2, .int .i64 s), (3, .int .i64 id), (4, .pointer (some ⟨b2, 0, none⟩)), (8, .slice none 0 0), (9, .bool false), (10, .slice (some ⟨b19, 0, none⟩) 0 0), (18, .bool false), (23, .slice A30 n31 c32), (24, .int .i64 ((n31 : Nat) : Int)), (25, .int .i64 0)] iU9 (U43 iU9)), (by kernel_rfl), rfl, (Nat.zero_le _), (Nat.zero_le _), x6, ho45, nb47, rd34, sp46, c44⟩
    rintro am0 aa0 wl0 K7 h7 ⟨i, A0_10, n0_10, c0_10, U0, rfl, rfl, hi, hb10, x6, ho0_10, nb0_10_b2, rd0_23, sp0_23_10, c48⟩
    refine wp_seq_k (fun K8 h8 => ?_)
    refine W.region_quiet [(0, false)] (by kernel_rfl) ?_
    by_cases q49 : (((i : Nat) : Int) : Int) < (((n31 : Nat) : Int) : Int)
    · refine W.q (v := .bool true) (hr := (r_lss (m := ((i : Nat) : Int)) (n := ((n31 : Nat) : Int)) rfl (by kernel_rfl) (by kernel_rfl) (decide_eq_true q49))) (h := ?_)
      refine W.endF 52 [(0, .agg #[.int .i64 m, .slice A n c]), (1, .slice A2 n2 c2), (2, .int .i64 s), (3, .int .i64 id), (4, .pointer (some ⟨b2, 0, none⟩)), (8, .slice none 0 0), (9, .bool false), (10, .slice A0_10 n0_10 c0_10), (18, .bool false), (23, .slice A30 n31 c32), (24, .int .i64 ((n31 : Nat) : Int)), (25, .int .i64 ((i : Nat) : Int)), (26, .bool true)] (fun U50 => ?_)
      refine h8 _ _ ?_
      refine wp_seq_k (fun K9 h9 => ?_)
      refine wp_cond_true (by kernel_rfl) ?_
      refine wp_skip ?_
      refine h9 _ _ ?_
      refine wp_seq_k (fun K10 h10 => ?_)
      refine wp_block ?_
      refine wp_seq_k (fun K11 h11 => ?_)
      refine W.region_quiet [(0, false), (1, false), (2, false)] (by kernel_rfl) ?_
      obtain ⟨x51, hx52⟩ := get_of (zs := (aroundI ps vs (9 + findL ps id) vs.length)) (k := i) (by have := hl35; omega)
      obtain ⟨b53, o54, hA55, hb56, hc57⟩ := Rd.elInt rd0_23 hx52
      refine W.q (v := .pointer (some ⟨b53, o54 + i, none⟩)) (hr := (r_idx1 (n := n31) (c := c32) (k := i) rfl (by kernel_rfl) hA55 (by kernel_rfl) (by kernel_rfl) (by have := hl35; omega))) (h := ?_)
      refine W.ld (v := .int .i64 x51) (hc := (eqS hc57)) (h := ?_)
      refine W.as (v := .int .i64 x51) (h := ?_)
      refine W.endF 52 [(0, .agg #[.int .i64 m, .slice A n c]), (1, .slice A2 n2 c2), (2, .int .i64 s), (3, .int .i64 id), (4, .pointer (some ⟨b2, 0, none⟩)), (8, .slice none 0 0), (9, .bool false), (10, .slice A0_10 n0_10 c0_10), (12, .int .i64 x51), (18, .bool false), (23, .slice A30 n31 c32), (24, .int .i64 ((n31 : Nat) : Int)), (25, .int .i64 ((i : Nat) : Int)), (26, .bool true)] (fun U58 => ?_)
      refine h11 _ _ ?_
      refine wp_seq_k (fun K12 h12 => ?_)
      refine W.region_quiet [(0, false), (1, false), (2, false), (3, false), (4, false), (5, false)] (by kernel_rfl) ?_
      refine W.mv (v := .slice A2 n2 c2) (h := ?_)
      refine W.mv (v := .int .i64 x51) (h := ?_)
      have hy9 := aroundI_in (List.mem_of_getElem? hx52)
      obtain ⟨x59, hx60⟩ := get_of (zs := vs) (k := x51.toNat) (by have := hl2; omega)
      obtain ⟨b61, o62, hA63, hb64, hc65, hc66, hc67, hc68⟩ := Rd.elValve hb hx60
      refine W.q (v := .pointer (some ⟨b61, o62 + x51.toNat * 4, none⟩)) (hr := (r_idx (n := n2) (c := c2) (k := x51.toNat) rfl (by kernel_rfl) hA63 (evk (z := x51) (by kernel_rfl) (by omega)) (by kernel_rfl) (by have := hl2; omega))) (h := ?_)
      refine W.q (v := .pointer (some ⟨b61, o62 + x51.toNat * 4 + 3, none⟩)) (hr := (r_field (k := 3) rfl (by kernel_rfl) (by kernel_rfl))) (h := ?_)
      refine W.ld (v := .bool x59.shut) (hc := (eqS (later c48 hc68))) (h := ?_)
      refine W.q (v := .bool (!x59.shut)) (hr := (r_not (b := x59.shut) rfl (by kernel_rfl) rfl)) (h := ?_)
      refine W.endF 52 [(0, .agg #[.int .i64 m, .slice A n c]), (1, .slice A2 n2 c2), (2, .int .i64 s), (3, .int .i64 id), (4, .pointer (some ⟨b2, 0, none⟩)), (8, .slice none 0 0), (9, .bool false), (10, .slice A0_10 n0_10 c0_10), (12, .int .i64 x51), (18, .bool false), (23, .slice A30 n31 c32), (24, .int .i64 ((n31 : Nat) : Int)), (25, .int .i64 ((i : Nat) : Int)), (26, .bool true), (34, .bool (!x59.shut))] (fun U69 => ?_)
      refine h12 _ _ ?_
      rcases Bool.eq_false_or_eq_true (!x59.shut) with q70 | q70
      · rw [q70]
        refine wp_cond_true (by kernel_rfl) ?_
        refine W.region_plain (row := (Value.ownBlock (.slice A0_10 n0_10 c0_10))) [(0, false), (1, false), (2, false), (3, false), (4, false), (5, false), (6, true), (7, true), (8, false)] (by kernel_rfl) ?_
        have s71 := SG.self wl0 (Value.ownBlock (.slice A0_10 n0_10 c0_10))
        refine W.mv (v := .slice A0_10 n0_10 c0_10) (h := ?_)
        refine W.mv (v := .slice A2 n2 c2) (h := ?_)
        refine W.mv (v := .int .i64 x51) (h := ?_)
        refine W.q (v := .pointer (some ⟨b61, o62 + x51.toNat * 4, none⟩)) (hr := (r_idx (n := n2) (c := c2) (k := x51.toNat) rfl (by kernel_rfl) hA63 (evk (z := x51) (by kernel_rfl) (by omega)) (by kernel_rfl) (by have := hl2; omega))) (h := ?_)
        refine W.q (v := .pointer (some ⟨b61, o62 + x51.toNat * 4, none⟩)) (hr := (r_field0 rfl (by kernel_rfl) (by kernel_rfl))) (h := ?_)
        refine W.ld (v := .int .i64 x59.id) (hc := (sgS (later c48 hc65) (nb_lo ho0_10 hb64))) (h := ?_)
        refine W.sn (fun b => .slice (some ⟨b, 0, none⟩) 1 1) #[.int .i64 x59.id] 3 s71 rfl (by kernel_rfl) rfl (fun _ => by kernel_rfl) (fun b72 w73 hb74 k75 x76 s77 => ?_)
        have lo78 : w.heap.size ≤ b72 := by have := ((SG.belowR c48 s71 (fun kq e => (World.ownsRow.lt ho0_10 kq e).1))).size; omega
        have sp79 : Sp A30 n31 (some b72) := sp_new rd0_23 (by have := World.grownBy.size s71; have := hb74; omega)
        have ne80 : b2 ≠ b72 := by have := blk_lt x6; have := World.grownBy.size s71; omega
        have nb81 : Nb b72 (.slice A0_10 n0_10 c0_10) := nb_hi ho0_10 (Nat.le_of_eq hb74)
        have ho82 := own_kept ho0_10 k75
        refine W.sap (e := 3) (size := 1) (base := w.heap.size) (m := 1) (v := .slice A0_10 n0_10 c0_10) (c := 1) s77 rfl rfl rfl rfl (by kernel_rfl) (by kernel_rfl) (by kernel_rfl) ho82 x76 (by kernel_rfl) (by kernel_rfl) (by omega) (by omega) (by have := ((SG.belowR c48 s77 (fun kq e => (World.ownsRow.lt ho0_10 kq e).1))).size; omega) (.inl rfl) (fun g83 cap84 w85 ho86 hg87 hat88 hlt89 s90 => ?_)
        have nb91 : Nb b2 (.slice (some ⟨g83, 0, none⟩) (n0_10 + 1) cap84) := nb_app nb0_10_b2 (Nat.lt_of_lt_of_le (blk_lt x6) (World.grownBy.size s77)) hat88
        have nb92 : Nb b72 (.slice (some ⟨g83, 0, none⟩) (n0_10 + 1) cap84) := nb_app nb81 (blk_lt x76) hat88
        have x76 := (hg87.block _ (blk_lt x76) nb81).trans x76
        have ho86 := own_snoc ho86
        have sp93 := sp_app (v' := .slice (some ⟨g83, 0, none⟩) (n0_10 + 1) cap84) sp0_23_10 rd0_23 (World.grownBy.size s77) (hat3 (v := .slice A0_10 n0_10 c0_10) hat88)
        refine W.as (v := .slice (some ⟨g83, 0, none⟩) (n0_10 + 1) cap84) (h := ?_)
        refine W.endF 52 [(0, .agg #[.int .i64 m, .slice A n c]), (1, .slice A2 n2 c2), (2, .int .i64 s), (3, .int .i64 id), (4, .pointer (some ⟨b2, 0, none⟩)), (8, .slice none 0 0), (9, .bool false), (10, .slice (some ⟨g83, 0, none⟩) (n0_10 + 1) cap84), (12, .int .i64 x51), (18, .bool false), (23, .slice A30 n31 c32), (24, .int .i64 ((n31 : Nat) : Int)), (25, .int .i64 ((i : Nat) : Int)), (26, .bool true), (34, .bool true)] (fun U94 => ?_)
        have x6 := SG.blk s90 x6 nb0_10_b2
        have c95 := (SG.belowR c48 s90 (fun kq e => (World.ownsRow.lt ho0_10 kq e).1))
        have rd96 := rd_sep rd0_23 s90 sp0_23_10
        refine h10 _ _ ?_
        refine W.region_quiet [(0, false), (1, false)] (by kernel_rfl) ?_
        refine W.q (v := .int .i64 ((i + 1 : Nat) : Int)) (hr := (r_add (m := ((i : Nat) : Int)) (n := 1) (z := ((i + 1 : Nat) : Int)) rfl (by kernel_rfl) (by kernel_rfl) (by omega) (by omega))) (h := ?_)
        refine W.mv (v := .int .i64 ((i + 1 : Nat) : Int)) (h := ?_)
        refine W.endF 52 [(0, .agg #[.int .i64 m, .slice A n c]), (1, .slice A2 n2 c2), (2, .int .i64 s), (3, .int .i64 id), (4, .pointer (some ⟨b2, 0, none⟩)), (8, .slice none 0 0), (9, .bool false), (10, .slice (some ⟨g83, 0, none⟩) (n0_10 + 1) cap84), (12, .int .i64 x51), (18, .bool false), (23, .slice A30 n31 c32), (24, .int .i64 ((n31 : Nat) : Int)), (25, .int .i64 ((i + 1 : Nat) : Int)), (26, .bool true), (34, .bool true)] (fun U97 => ?_)
        exact h7 _ _ _ (by omega : (n31 - (i + 1)) < _) ⟨i + 1, (some ⟨g83, 0, none⟩), (n0_10 + 1), cap84, (fun iU9 => lk [(0, .agg #[.int .i64 m, .slice A n c]), (1, .slice A2 n2 c2), (2, .int .i64 s), (3, .int .i64 id), (4, .pointer (some ⟨b2, 0, none⟩)), (8, .slice none 0 0), (9, .bool false), (10, .slice (some ⟨g83, 0, none⟩) (n0_10 + 1) cap84), (12, .int .i64 x51), (18, .bool false), (23, .slice A30 n31 c32), (24, .int .i64 ((n31 : Nat) : Int)), (25, .int .i64 ((i + 1 : Nat) : Int)), (26, .bool true), (34, .bool true)] iU9 (U97 iU9)), (by kernel_rfl), rfl, (by omega), (by omega), x6, (by rw [segIds_yes hx52 hx60 (by simpa using q70)]; exact ho86), nb91, rd96, sp93, c95⟩
      · rw [q70]
        refine wp_cond_false (by kernel_rfl) ?_
        refine wp_skip ?_
        refine h10 _ _ ?_
        refine W.region_quiet [(0, false), (1, false)] (by kernel_rfl) ?_
        refine W.q (v := .int .i64 ((i + 1 : Nat) : Int)) (hr := (r_add (m := ((i : Nat) : Int)) (n := 1) (z := ((i + 1 : Nat) : Int)) rfl (by kernel_rfl) (by kernel_rfl) (by omega) (by omega))) (h := ?_)
        refine W.mv (v := .int .i64 ((i + 1 : Nat) : Int)) (h := ?_)
        refine W.endF 52 [(0, .agg #[.int .i64 m, .slice A n c]), (1, .slice A2 n2 c2), (2, .int .i64 s), (3, .int .i64 id), (4, .pointer (some ⟨b2, 0, none⟩)), (8, .slice none 0 0), (9, .bool false), (10, .slice A0_10 n0_10 c0_10), (12, .int .i64 x51), (18, .bool false), (23, .slice A30 n31 c32), (24, .int .i64 ((n31 : Nat) : Int)), (25, .int .i64 ((i + 1 : Nat) : Int)), (26, .bool true), (34, .bool false)] (fun U98 => ?_)
        exact h7 _ _ _ (by omega : (n31 - (i + 1)) < _) ⟨i + 1, A0_10, n0_10, c0_10, (fun iU9 => lk [(0, .agg #[.int .i64 m, .slice A n c]), (1, .slice A2 n2 c2), (2, .int .i64 s), (3, .int .i64 id), (4, .pointer (some ⟨b2, 0, none⟩)), (8, .slice none 0 0), (9, .bool false), (10, .slice A0_10 n0_10 c0_10), (12, .int .i64 x51), (18, .bool false), (23, .slice A30 n31 c32), (24, .int .i64 ((n31 : Nat) : Int)), (25, .int .i64 ((i + 1 : Nat) : Int)), (26, .bool true), (34, .bool false)] iU9 (U98 iU9)), (by kernel_rfl), rfl, (by omega), (by omega), x6, (by rw [segIds_no hx52 hx60 (by simpa using q70)]; exact ho0_10), nb0_10_b2, rd0_23, sp0_23_10, c48⟩
    · refine W.q (v := .bool false) (hr := (r_lss (m := ((i : Nat) : Int)) (n := ((n31 : Nat) : Int)) rfl (by kernel_rfl) (by kernel_rfl) (decide_eq_false q49))) (h := ?_)
      refine W.endF 52 [(0, .agg #[.int .i64 m, .slice A n c]), (1, .slice A2 n2 c2), (2, .int .i64 s), (3, .int .i64 id), (4, .pointer (some ⟨b2, 0, none⟩)), (8, .slice none 0 0), (9, .bool false), (10, .slice A0_10 n0_10 c0_10), (18, .bool false), (23, .slice A30 n31 c32), (24, .int .i64 ((n31 : Nat) : Int)), (25, .int .i64 ((i : Nat) : Int)), (26, .bool false)] (fun U99 => ?_)
      refine h8 _ _ ?_
      refine wp_seq_k (fun K13 h13 => ?_)
      refine wp_cond_false (by kernel_rfl) ?_
      refine wp_exit ?_
      refine h5 _ _ ?_
      refine wp_seq_k (fun K14 h14 => ?_)
      refine wp_seq_k (fun K15 h15 => ?_)
      refine W.region_plain (row := none) [(0, false), (1, false), (2, false), (3, false), (4, false), (5, true), (6, false)] (by kernel_rfl) ?_
      have s100 := SG.self wl0 none
      refine W.q (v := .agg #[.int .i64 m, .slice A n c]) (hr := (r_load2 rfl (by kernel_rfl) (by kernel_rfl) (by kernel_rfl) (sgS (blk_cell (j := 0) x6 (by kernel_rfl)) (by simp)) (sgS (blk_cell (j := 1) x6 (by kernel_rfl)) (by simp)))) (h := ?_)
      refine W.mv (v := .slice A2 n2 c2) (h := ?_)
      refine W.mv (v := .int .i64 s) (h := ?_)
      refine W.mv (v := .int .i64 id) (h := ?_)
      refine W.mv (v := .slice A0_10 n0_10 c0_10) (h := ?_)
      refine W.sc (vs := [.agg #[.int .i64 m, .slice A n c], .slice A2 n2 c2, .int .i64 s, .int .i64 id, .slice A0_10 n0_10 c0_10]) rfl rfl (by kernel_rfl) (by kernel_rfl) (by kernel_rfl) rfl (isolates_any m A n c ps A2 n2 c2 vs s id A0_10 n0_10 c0_10 (segIds vs ((aroundI ps vs (9 + findL ps id) vs.length).take i)) _ (Rd.kept ha (SG.belowR c48 s100 (fun kq e => by cases e))) (Rd.kept hb (SG.belowR c48 s100 (fun kq e => by cases e))) (by omega) (by omega) hfm2 hv9 hs hfa (own_rd ho0_10) (by omega)) ?_
      rintro e w102 ⟨rfl, b101⟩
      have s103 := SG.of_below s100 b101
      refine ⟨_, rfl, s103, ?_⟩
      have ho104 := own_kept ho0_10 b101
      rcases Bool.eq_false_or_eq_true (cutB ps vs s id (segIds vs ((aroundI ps vs (9 + findL ps id) vs.length).take i))) with q105 | q105
      · rw [q105]
        refine W.q (v := .bool false) (hr := (r_not (b := true) rfl (by kernel_rfl) rfl)) (h := ?_)
        refine W.endF 52 [(0, .agg #[.int .i64 m, .slice A n c]), (1, .slice A2 n2 c2), (2, .int .i64 s), (3, .int .i64 id), (4, .pointer (some ⟨b2, 0, none⟩)), (8, .slice none 0 0), (9, .bool false), (10, .slice A0_10 n0_10 c0_10), (18, .bool false), (23, .slice A30 n31 c32), (24, .int .i64 ((n31 : Nat) : Int)), (25, .int .i64 ((i : Nat) : Int)), (26, .bool false), (50, .bool false)] (fun U106 => ?_)
        have x6 := SG.blk s103 x6 (by simp)
        have c107 := (SG.belowR c48 s103 (fun kq e => by cases e))
        have rd108 := Rd.kept rd0_23 (SG.below s103)
        refine h15 _ _ ?_
        refine wp_cond_false (by kernel_rfl) ?_
        refine wp_skip ?_
        refine h14 _ _ ?_
        refine wp_seq_k (fun K16 h16 => ?_)
        refine W.region_quiet [(0, false), (1, false), (2, false)] (by kernel_rfl) ?_
        refine W.mv (v := .slice A0_10 n0_10 c0_10) (h := ?_)
        refine W.as (v := .slice A0_10 n0_10 c0_10) (h := ?_)
        refine W.as (v := .bool true) (h := ?_)
        refine W.endF 52 [(0, .agg #[.int .i64 m, .slice A n c]), (1, .slice A2 n2 c2), (2, .int .i64 s), (3, .int .i64 id), (4, .pointer (some ⟨b2, 0, none⟩)), (8, .slice A0_10 n0_10 c0_10), (9, .bool true), (10, .slice A0_10 n0_10 c0_10), (18, .bool false), (23, .slice A30 n31 c32), (24, .int .i64 ((n31 : Nat) : Int)), (25, .int .i64 ((i : Nat) : Int)), (26, .bool false), (50, .bool false)] (fun U109 => ?_)
        refine h16 _ _ ?_
        refine wp_ret ?_
        try simp only [Exit.then]
        refine ret2 (v := .slice A0_10 n0_10 c0_10) (x := .bool true) rfl (by kernel_rfl) (by kernel_rfl) ?_
        have e8 : SegmentPlan_v1 m ps vs s id = true := by unfold SegmentPlan_v1 segPlan; rw [q15, show segIds vs (aroundI ps vs (9 + findL ps id) vs.length) = segIds vs ((aroundI ps vs (9 + findL ps id) vs.length).take i) from by rw [List.take_of_length_le (by omega)], q105]; rfl
        exact fin_ints  ho104 (by unfold SegmentPlan_v0 segPlan; rw [if_pos e8, List.take_of_length_le (by omega)]) e8.symm c107
      · rw [q105]
        refine W.q (v := .bool true) (hr := (r_not (b := false) rfl (by kernel_rfl) rfl)) (h := ?_)
        refine W.endF 52 [(0, .agg #[.int .i64 m, .slice A n c]), (1, .slice A2 n2 c2), (2, .int .i64 s), (3, .int .i64 id), (4, .pointer (some ⟨b2, 0, none⟩)), (8, .slice none 0 0), (9, .bool false), (10, .slice A0_10 n0_10 c0_10), (18, .bool false), (23, .slice A30 n31 c32), (24, .int .i64 ((n31 : Nat) : Int)), (25, .int .i64 ((i : Nat) : Int)), (26, .bool false), (50, .bool true)] (fun U110 => ?_)
        have x6 := SG.blk s103 x6 (by simp)
        have c111 := (SG.belowR c48 s103 (fun kq e => by cases e))
        have rd112 := Rd.kept rd0_23 (SG.below s103)
        refine h15 _ _ ?_
        refine wp_cond_true (by kernel_rfl) ?_
        refine wp_seq_k (fun K17 h17 => ?_)
        refine W.region_quiet [(0, false), (1, false)] (by kernel_rfl) ?_
        refine W.as (v := .slice none 0 0) (h := ?_)
        refine W.as (v := .bool false) (h := ?_)
        refine W.endF 52 [(0, .agg #[.int .i64 m, .slice A n c]), (1, .slice A2 n2 c2), (2, .int .i64 s), (3, .int .i64 id), (4, .pointer (some ⟨b2, 0, none⟩)), (8, .slice none 0 0), (9, .bool false), (10, .slice A0_10 n0_10 c0_10), (18, .bool false), (23, .slice A30 n31 c32), (24, .int .i64 ((n31 : Nat) : Int)), (25, .int .i64 ((i : Nat) : Int)), (26, .bool false), (50, .bool true)] (fun U113 => ?_)
        refine h17 _ _ ?_
        refine wp_ret ?_
        try simp only [Exit.then]
        refine ret2 (v := .slice none 0 0) (x := .bool false) rfl (by kernel_rfl) (by kernel_rfl) ?_
        have e8 : SegmentPlan_v1 m ps vs s id = false := by unfold SegmentPlan_v1 segPlan; rw [show segIds vs (aroundI ps vs (9 + findL ps id) vs.length) = segIds vs ((aroundI ps vs (9 + findL ps id) vs.length).take i) from by rw [List.take_of_length_le (by omega)], q105, Bool.and_false]
        exact fin_ints (zs := []) (World.ownsRow_nil _ _ _ _) (by unfold SegmentPlan_v0; rw [if_neg (by rw [e8]; simp)]) e8.symm c111
  · rw [q15]
    refine W.q (v := .bool true) (hr := (r_not (b := false) rfl (by kernel_rfl) rfl)) (h := ?_)
    refine W.endF 52 [(0, .agg #[.int .i64 m, .slice A n c]), (1, .slice A2 n2 c2), (2, .int .i64 s), (3, .int .i64 id), (4, .pointer (some ⟨b2, 0, none⟩)), (8, .slice none 0 0), (9, .bool false), (18, .bool true)] (fun U114 => ?_)
    have x6 := SG.blk s14 x6 (by simp)
    have c115 := (SG.belowR c10 s14 (fun kq e => by cases e))
    refine h3 _ _ ?_
    refine wp_cond_true (by kernel_rfl) ?_
    refine wp_seq_k (fun K18 h18 => ?_)
    refine W.region_quiet [(0, false), (1, false)] (by kernel_rfl) ?_
    refine W.as (v := .slice none 0 0) (h := ?_)
    refine W.as (v := .bool false) (h := ?_)
    refine W.endF 52 [(0, .agg #[.int .i64 m, .slice A n c]), (1, .slice A2 n2 c2), (2, .int .i64 s), (3, .int .i64 id), (4, .pointer (some ⟨b2, 0, none⟩)), (8, .slice none 0 0), (9, .bool false), (18, .bool true)] (fun U116 => ?_)
    refine h18 _ _ ?_
    refine wp_ret ?_
    try simp only [Exit.then]
    refine ret2 (v := .slice none 0 0) (x := .bool false) rfl (by kernel_rfl) (by kernel_rfl) ?_
    have e8 : SegmentPlan_v1 m ps vs s id = false := by unfold SegmentPlan_v1; rw [q15]; rfl
    exact fin_ints (zs := []) (World.ownsRow_nil _ _ _ _) (by unfold SegmentPlan_v0; rw [if_neg (by rw [e8]; simp)]) e8.symm c115

set_option maxRecDepth 100000 in
set_option maxHeartbeats 1000000 in
theorem SegmentPlan_spec (m : Int) (A : Option Addr) (n c : Nat) (ps : List Pp) (A2 : Option Addr) (n2 c2 : Nat) (vs : List Vv) (s id : Int) (w : World) (ha : Rd w 4 A n (pipesV ps)) (hb : Rd w 4 A2 n2 (valvesV vs)) (hn : n ≤ 1048576) (hn2 : n2 ≤ 1048576) (hfm : Fm A n c) (hfm2 : Fm A2 n2 c2) :
    Calls Try.prog 33 #[.agg #[.int .i64 m, .slice A n c], .slice A2 n2 c2, .int .i64 s, .int .i64 id] w fun e w' => ∃ A' d, e = .returned (.tuple #[.slice A' (SegmentPlan_v0 m ps vs s id).length d, .bool (SegmentPlan_v1 m ps vs s id)]) ∧ Rd w' 1 A' (SegmentPlan_v0 m ps vs s id).length (intsV (SegmentPlan_v0 m ps vs s id)) ∧ Below w.heap.size w w' := by
  have hl := rd_pipes_len ha
  have hl2 := rd_valves_len hb
  have hfl := findL_lt ps id
  go_enter Try.func33, Try.ntmps33
  refine wp_seq_k (fun K1 h1 => ?_)
  refine W.region_plain (row := none) [(0, true), (1, false), (2, false)] (by kernel_rfl) ?_
  have s1 := SG.self w none
  refine W.sn (fun b => .pointer (some ⟨b, 0, none⟩)) #[.int .i64 m, .slice A n c] 32 s1 rfl (by kernel_rfl) rfl (fun _ => by kernel_rfl) (fun b2 w3 hb4 k5 x6 s7 => ?_)
  have lo8 : w.heap.size ≤ b2 := by have := ((SG.belowR (Below.refl _ _) s1 (fun kq e => by cases e))).size; omega
  refine W.as (v := .slice none 0 0) (h := ?_)
  refine W.as (v := .bool false) (h := ?_)
  refine W.endF 60 [(0, .agg #[.int .i64 m, .slice A n c]), (1, .slice A2 n2 c2), (2, .int .i64 s), (3, .int .i64 id), (4, .pointer (some ⟨b2, 0, none⟩)), (8, .slice none 0 0), (9, .bool false)] (fun U9 => ?_)
  have c10 := (SG.belowR (Below.refl _ _) s7 (fun kq e => by cases e))
  refine h1 _ _ ?_
  refine wp_seq_k (fun K2 h2 => ?_)
  refine wp_seq_k (fun K3 h3 => ?_)
  refine W.region_plain (row := none) [(0, false), (1, false), (2, false), (3, false), (4, true), (5, false)] (by kernel_rfl) ?_
  have s11 := SG.self w3 none
  refine W.q (v := .agg #[.int .i64 m, .slice A n c]) (hr := (r_load2 rfl (by kernel_rfl) (by kernel_rfl) (by kernel_rfl) (sgS (blk_cell (j := 0) x6 (by kernel_rfl)) (by simp)) (sgS (blk_cell (j := 1) x6 (by kernel_rfl)) (by simp)))) (h := ?_)
  refine W.mv (v := .slice A2 n2 c2) (h := ?_)
  refine W.mv (v := .int .i64 s) (h := ?_)
  refine W.mv (v := .int .i64 id) (h := ?_)
  refine W.sc (vs := [.agg #[.int .i64 m, .slice A n c], .slice A2 n2 c2, .int .i64 s, .int .i64 id]) rfl rfl (by kernel_rfl) (by kernel_rfl) (by kernel_rfl) rfl (l5Asked_any m A n c ps A2 n2 c2 vs s id _ (Rd.kept ha (SG.belowR c10 s11 (fun kq e => by cases e))) (Rd.kept hb (SG.belowR c10 s11 (fun kq e => by cases e))) (by omega) (by omega) hfm2) ?_
  rintro e w13 ⟨rfl, b12⟩
  have s14 := SG.of_below s11 b12
  refine ⟨_, rfl, s14, ?_⟩
  rcases Bool.eq_false_or_eq_true (canB m ps vs s id) with q15 | q15
  · rw [q15]
    obtain ⟨hv9, hs, hfa⟩ := canB_of q15
    have hg := hv9.net
    have hgl := hg.lo
    have hgh := hg.hi
    have hp := hg.pipesIn
    have hlen10 := hg.len
    have hu := hv9.uniq
    have hvl := hv9.len
    refine W.q (v := .bool false) (hr := (r_not (b := true) rfl (by kernel_rfl) rfl)) (h := ?_)
    refine W.endF 60 [(0, .agg #[.int .i64 m, .slice A n c]), (1, .slice A2 n2 c2), (2, .int .i64 s), (3, .int .i64 id), (4, .pointer (some ⟨b2, 0, none⟩)), (8, .slice none 0 0), (9, .bool false), (20, .bool false)] (fun U16 => ?_)
    have x6 := SG.blk s14 x6 (by simp)
    have c17 := (SG.belowR c10 s14 (fun kq e => by cases e))
    refine h3 _ _ ?_
    refine wp_cond_false (by kernel_rfl) ?_
    refine wp_skip ?_
    refine h2 _ _ ?_
    refine wp_seq_k (fun K4 h4 => ?_)
    refine W.region_plain (row := none) [(0, false), (1, false), (2, false), (3, true), (4, false), (5, false), (6, false), (7, false), (8, false)] (by kernel_rfl) ?_
    have s18 := SG.self w13 none
    refine W.q (v := .agg #[.int .i64 m, .slice A n c]) (hr := (r_load2 rfl (by kernel_rfl) (by kernel_rfl) (by kernel_rfl) (sgS (blk_cell (j := 0) x6 (by kernel_rfl)) (by simp)) (sgS (blk_cell (j := 1) x6 (by kernel_rfl)) (by simp)))) (h := ?_)
    refine W.mv (v := .slice A2 n2 c2) (h := ?_)
    refine W.mv (v := .int .i64 id) (h := ?_)
    refine W.sc (vs := [.agg #[.int .i64 m, .slice A n c], .slice A2 n2 c2, .int .i64 id]) rfl rfl (by kernel_rfl) (by kernel_rfl) (by kernel_rfl) rfl (ValvesAround_spec m A n c ps A2 n2 c2 vs id _ (Rd.kept ha (SG.belowR c17 s18 (fun kq e => by cases e))) (Rd.kept hb (SG.belowR c17 s18 (fun kq e => by cases e))) (by omega) (by omega) hfm hfm2) ?_
    rintro e w26 ⟨A19, c21, rfl, rd22, b25⟩
    have s27 := SG.of_below s18 b25
    refine ⟨_, rfl, s27, ?_⟩
    have hva : ValvesAround_v1 m ps vs id = true := by unfold ValvesAround_v1; have h9 := q15; unfold canB at h9; simp only [Bool.and_eq_true] at h9; rw [h9.1.1, decide_eq_true hfa]; rfl
    have ev0 : (ValvesAround_v0 m ps vs id) = (idsV vs (aroundI ps vs (9 + findL ps id) vs.length)) := by unfold ValvesAround_v0; rw [if_pos hva]
    have rd22 : Rd w26 1 A19 (ValvesAround_v0 m ps vs id).length (intsV (idsV vs (aroundI ps vs (9 + findL ps id) vs.length))) := by rw [← ev0]; exact rd22
    have hl23 : (idsV vs (aroundI ps vs (9 + findL ps id) vs.length)).length = (ValvesAround_v0 m ps vs id).length := by rw [ev0]
    have hil := idsV_len vs (aroundI ps vs (9 + findL ps id) vs.length)
    have := aroundI_len ps vs (9 + findL ps id) vs.length
    refine W.mv (v := .tuple #[.slice A19 ((ValvesAround_v0 m ps vs id).length) c21, .bool (ValvesAround_v1 m ps vs id)]) (h := ?_)
    refine W.q (v := .slice A19 ((ValvesAround_v0 m ps vs id).length) c21) (hr := (r_extract (vs := #[.slice A19 ((ValvesAround_v0 m ps vs id).length) c21, .bool (ValvesAround_v1 m ps vs id)]) rfl (by kernel_rfl) (by kernel_rfl))) (h := ?_)
    refine W.q (v := .bool (ValvesAround_v1 m ps vs id)) (hr := (r_extract (vs := #[.slice A19 ((ValvesAround_v0 m ps vs id).length) c21, .bool (ValvesAround_v1 m ps vs id)]) rfl (by kernel_rfl) (by kernel_rfl))) (h := ?_)
    refine W.as (v := .slice A19 ((ValvesAround_v0 m ps vs id).length) c21) (h := ?_)
    refine W.as (v := .bool (ValvesAround_v1 m ps vs id)) (h := ?_)
    refine W.endF 60 [(0, .agg #[.int .i64 m, .slice A n c]), (1, .slice A2 n2 c2), (2, .int .i64 s), (3, .int .i64 id), (4, .pointer (some ⟨b2, 0, none⟩)), (8, .slice none 0 0), (9, .bool false), (10, .slice A19 ((ValvesAround_v0 m ps vs id).length) c21), (20, .bool false)] (fun U28 => ?_)
    have x6 := SG.blk s27 x6 (by simp)
    have c29 := (SG.belowR c17 s27 (fun kq e => by cases e))
    refine h4 _ _ ?_
    refine wp_seq_k (fun K5 h5 => ?_)
    refine W.region_plain (row := none) [(0, true), (1, false)] (by kernel_rfl) ?_
    have s30 := SG.self w26 none
    refine W.sn (fun b => .slice (some ⟨b, 0, none⟩) 0 0) #[] 3 s30 rfl (by kernel_rfl) rfl (fun _ => by kernel_rfl) (fun b31 w32 hb33 k34 x35 s36 => ?_)
    have lo37 : w.heap.size ≤ b31 := by have := ((SG.belowR c29 s30 (fun kq e => by cases e))).size; omega
    have sp38 : Sp A19 ((ValvesAround_v0 m ps vs id).length) (some b31) := sp_new rd22 (by have := World.grownBy.size s30; have := hb33; omega)
    have ne39 : b2 ≠ b31 := by have := blk_lt x6; have := World.grownBy.size s30; omega
    refine W.as (v := .slice (some ⟨b31, 0, none⟩) 0 0) (h := ?_)
    refine W.endF 60 [(0, .agg #[.int .i64 m, .slice A n c]), (1, .slice A2 n2 c2), (2, .int .i64 s), (3, .int .i64 id), (4, .pointer (some ⟨b2, 0, none⟩)), (8, .slice none 0 0), (9, .bool false), (10, .slice A19 ((ValvesAround_v0 m ps vs id).length) c21), (12, .slice (some ⟨b31, 0, none⟩) 0 0), (20, .bool false)] (fun U40 => ?_)
    have x6 := SG.blk s36 x6 (by simp)
    have c41 := (SG.belowR c29 s36 (fun kq e => by cases e))
    have rd42 := Rd.kept rd22 (SG.below s36)
    refine h5 _ _ ?_
    refine wp_seq_k (fun K6 h6 => ?_)
    refine W.region_plain (row := none) [(0, false), (1, true), (2, false)] (by kernel_rfl) ?_
    have s43 := SG.self w32 none
    refine W.mv (v := .slice A2 n2 c2) (h := ?_)
    refine W.sc (vs := [.slice A2 n2 c2]) rfl rfl (by kernel_rfl) (by kernel_rfl) (by kernel_rfl) rfl (l5Open_any A2 n2 c2 vs _ (Rd.kept hb (SG.belowR c41 s43 (fun kq e => by cases e))) (by omega)) ?_
    rintro e w53 ⟨A44, n45, c46, rfl, ho47, b52⟩
    have s54 := SG.of_below s43 b52
    refine ⟨_, rfl, s54, ?_⟩
    have rd48 := own_rd ho47
    have fm51 := own_fm ho47
    have hl49 := rd_ints_len rd48
    have sp55 := sp_freshB (g := b2) ho47 (Nat.lt_of_lt_of_le (blk_lt x6) (World.grownBy.size s43))
    have sp56 := sp_freshB (g := b31) ho47 (Nat.lt_of_lt_of_le (blk_lt x35) (World.grownBy.size s43))
    have := openIds_len vs
    refine W.as (v := .slice A44 n45 c46) (h := ?_)
    refine W.endF 60 [(0, .agg #[.int .i64 m, .slice A n c]), (1, .slice A2 n2 c2), (2, .int .i64 s), (3, .int .i64 id), (4, .pointer (some ⟨b2, 0, none⟩)), (8, .slice none 0 0), (9, .bool false), (10, .slice A19 ((ValvesAround_v0 m ps vs id).length) c21), (12, .slice (some ⟨b31, 0, none⟩) 0 0), (13, .slice A44 n45 c46), (20, .bool false)] (fun U57 => ?_)
    have x6 := SG.blk s54 x6 (by simp)
    have x35 := SG.blk s54 x35 (by simp)
    have c58 := (SG.belowR c41 s54 (fun kq e => by cases e))
    have rd59 := Rd.kept rd42 (SG.below s54)
    refine h6 _ _ ?_
    refine wp_seq_k (fun K7 h7 => ?_)
    refine wp_seq_k (fun K8 h8 => ?_)
    refine W.region_quiet [(0, false)] (by kernel_rfl) ?_
    refine W.as (v := .int .i64 0) (h := ?_)
    refine W.endF 60 [(0, .agg #[.int .i64 m, .slice A n c]), (1, .slice A2 n2 c2), (2, .int .i64 s), (3, .int .i64 id), (4, .pointer (some ⟨b2, 0, none⟩)), (8, .slice none 0 0), (9, .bool false), (10, .slice A19 ((ValvesAround_v0 m ps vs id).length) c21), (12, .slice (some ⟨b31, 0, none⟩) 0 0), (13, .slice A44 n45 c46), (14, .int .i64 0), (20, .bool false)] (fun U60 => ?_)
    refine h8 _ _ ?_
    refine wp_block ?_
    have ho61 := own_empty (base := w.heap.size) (size := 1) x35 lo37
    replace ho61 : World.ownsRow _ _ _ _ _ _ (intsV []) := ho61
    have sp62 := sp_own (n' := 0) (c := 0) sp38
    have sp63 := sp_own (n' := 0) (c := 0) sp56
    have nb64 : Nb b2 (.slice (some ⟨b31, 0, none⟩) 0 0) := nb_new (by have := ne39; omega)
    refine loopK (fun am0 aa0 wl0 => ∃ (i : Nat) (A0_12 : Option Addr) (n0_12 : Nat) (c0_12 : Nat) (U0 : Nat → Value), aa0 = ⟨(fr U0 [(0, .agg #[.int .i64 m, .slice A n c]), (1, .slice A2 n2 c2), (2, .int .i64 s), (3, .int .i64 id), (4, .pointer (some ⟨b2, 0, none⟩)), (8, .slice none 0 0), (9, .bool false), (10, .slice A19 ((ValvesAround_v0 m ps vs id).length) c21), (12, .slice A0_12 n0_12 c0_12), (13, .slice A44 n45 c46), (14, .int .i64 ((i : Nat) : Int)), (20, .bool false)] 60 0).toArray, []⟩ ∧ (am0 = (ValvesAround_v0 m ps vs id).length - i) ∧ (i ≤ (ValvesAround_v0 m ps vs id).length) ∧ (n0_12 ≤ i) ∧ (wl0.heap[b2]? = some (.cells #[.int .i64 m, .slice A n c] 32 (0, 0))) ∧ (wl0.ownsRow w.heap.size 3 1 (.slice A0_12 n0_12 c0_12) n0_12 (intsV (segIds vs ((aroundI ps vs (9 + findL ps id) vs.length).take i)))) ∧ (Nb b2 (.slice A0_12 n0_12 c0_12)) ∧ (Rd wl0 1 A19 ((ValvesAround_v0 m ps vs id).length) (intsV (idsV vs (aroundI ps vs (9 + findL ps id) vs.length)))) ∧ (Rd wl0 1 A44 n45 (intsV (openIds vs))) ∧ (Sp A19 ((ValvesAround_v0 m ps vs id).length) (Value.ownBlock (.slice A0_12 n0_12 c0_12))) ∧ (Sp A44 n45 (Value.ownBlock (.slice A0_12 n0_12 c0_12))) ∧ (Below w.heap.size w wl0)) ((ValvesAround_v0 m ps vs id).length - 0) ?_ ?_
    · exact ⟨0, (some ⟨b31, 0, none⟩), 0, 0, (fun iU9 => lk [(0, .agg #[.int .i64 m, .slice A n c]), (1, .slice A2 n2 c2), (2, .int .i64 s), (3, .int .i64 id), (4, .pointer (some ⟨b2, 0, none⟩)), (8, .slice none 0 0), (9, .bool false), (10, .slice A19 ((ValvesAround_v0 m ps vs id).length) c21), (12, .slice (some ⟨b31, 0, none⟩) 0 0), (13, .slice A44 n45 c46), (14, .int .i64 0), (20, .bool false)] iU9 (U60 iU9)), (by kernel_rfl), rfl, (Nat.zero_le _), (Nat.zero_le _), x6, ho61, nb64, rd59, rd48, sp62, sp63, c58⟩
    rintro am0 aa0 wl0 K9 h9 ⟨i, A0_12, n0_12, c0_12, U0, rfl, rfl, hi, hb12, x6, ho0_12, nb0_12_b2, rd0_10, rd0_13, sp0_10_12, sp0_13_12, c65⟩
    refine wp_seq_k (fun K10 h10 => ?_)
    refine wp_seq_k (fun K11 h11 => ?_)
    refine W.region_quiet [(0, false), (1, false), (2, false), (3, false)] (by kernel_rfl) ?_
    refine W.mv (v := .int .i64 ((i : Nat) : Int)) (h := ?_)
    refine W.mv (v := .slice A19 ((ValvesAround_v0 m ps vs id).length) c21) (h := ?_)
    refine W.q (v := .int .i64 (((ValvesAround_v0 m ps vs id).length : Nat) : Int)) (hr := (r_len (A := A19) (n := (ValvesAround_v0 m ps vs id).length) (c := c21) rfl (by kernel_rfl) (by kernel_rfl))) (h := ?_)
    by_cases q66 : (((i : Nat) : Int) : Int) < ((((ValvesAround_v0 m ps vs id).length : Nat) : Int) : Int)
    · refine W.q (v := .bool true) (hr := (r_lss (m := ((i : Nat) : Int)) (n := (((ValvesAround_v0 m ps vs id).length : Nat) : Int)) rfl (by kernel_rfl) (by kernel_rfl) (decide_eq_true q66))) (h := ?_)
      refine W.endF 60 [(0, .agg #[.int .i64 m, .slice A n c]), (1, .slice A2 n2 c2), (2, .int .i64 s), (3, .int .i64 id), (4, .pointer (some ⟨b2, 0, none⟩)), (8, .slice none 0 0), (9, .bool false), (10, .slice A19 ((ValvesAround_v0 m ps vs id).length) c21), (12, .slice A0_12 n0_12 c0_12), (13, .slice A44 n45 c46), (14, .int .i64 ((i : Nat) : Int)), (20, .bool false), (35, .bool true)] (fun U67 => ?_)
      refine h11 _ _ ?_
      refine wp_cond_true (by kernel_rfl) ?_
      refine wp_skip ?_
      refine h10 _ _ ?_
      refine wp_seq_k (fun K12 h12 => ?_)
      refine wp_block ?_
      refine wp_seq_k (fun K13 h13 => ?_)
      refine W.region_plain (row := none) [(0, false), (1, false), (2, false), (3, false), (4, false), (5, true)] (by kernel_rfl) ?_
      have s68 := SG.self wl0 none
      refine W.mv (v := .slice A44 n45 c46) (h := ?_)
      refine W.mv (v := .slice A19 ((ValvesAround_v0 m ps vs id).length) c21) (h := ?_)
      refine W.mv (v := .int .i64 ((i : Nat) : Int)) (h := ?_)
      obtain ⟨ya, hya⟩ := get_of (zs := (aroundI ps vs (9 + findL ps id) vs.length)) (k := i) (by omega)
      have hy9 := aroundI_in (List.mem_of_getElem? hya)
      obtain ⟨va9, hva9⟩ := get_of (zs := vs) (k := ya.toNat) (by omega)
      have hai := idsV_at hya hva9
      obtain ⟨b69, o70, hA71, hb72, hc73⟩ := Rd.elInt rd0_10 hai
      refine W.q (v := .pointer (some ⟨b69, o70 + i, none⟩)) (hr := (r_idx1 (n := (ValvesAround_v0 m ps vs id).length) (c := c21) (k := i) rfl (by kernel_rfl) hA71 (by kernel_rfl) (by kernel_rfl) (by have := hl23; omega))) (h := ?_)
      refine W.ld (v := .int .i64 va9.id) (hc := (sgS hc73 (by simp))) (h := ?_)
      refine W.sc (vs := [.slice A44 n45 c46, .int .i64 va9.id]) rfl rfl (by kernel_rfl) (by kernel_rfl) (by kernel_rfl) rfl (l1Has_any A44 n45 c46 (openIds vs) va9.id _ (Rd.kept rd0_13 (SG.below s68)) (by omega)) ?_
      rintro e w75 ⟨rfl, b74⟩
      have s76 := SG.of_below s68 b74
      refine ⟨_, rfl, s76, ?_⟩
      have ho77 := own_kept ho0_12 b74
      rcases Bool.eq_false_or_eq_true ((openIds vs).contains va9.id) with q78 | q78
      · rw [q78]
        refine W.endF 60 [(0, .agg #[.int .i64 m, .slice A n c]), (1, .slice A2 n2 c2), (2, .int .i64 s), (3, .int .i64 id), (4, .pointer (some ⟨b2, 0, none⟩)), (8, .slice none 0 0), (9, .bool false), (10, .slice A19 ((ValvesAround_v0 m ps vs id).length) c21), (12, .slice A0_12 n0_12 c0_12), (13, .slice A44 n45 c46), (14, .int .i64 ((i : Nat) : Int)), (20, .bool false), (35, .bool true), (43, .bool true)] (fun U79 => ?_)
        have x6 := SG.blk s76 x6 (by simp)
        have c80 := (SG.belowR c65 s76 (fun kq e => by cases e))
        have rd81 := Rd.kept rd0_10 (SG.below s76)
        have rd82 := Rd.kept rd0_13 (SG.below s76)
        refine h13 _ _ ?_
        refine wp_cond_true (by kernel_rfl) ?_
        refine W.region_plain (row := (Value.ownBlock (.slice A0_12 n0_12 c0_12))) [(0, false), (1, false), (2, false), (3, false), (4, false), (5, true), (6, true), (7, false)] (by kernel_rfl) ?_
        have s83 := SG.self w75 (Value.ownBlock (.slice A0_12 n0_12 c0_12))
        refine W.mv (v := .slice A0_12 n0_12 c0_12) (h := ?_)
        refine W.mv (v := .slice A19 ((ValvesAround_v0 m ps vs id).length) c21) (h := ?_)
        refine W.mv (v := .int .i64 ((i : Nat) : Int)) (h := ?_)
        obtain ⟨b84, o85, hA86, hb87, hc88⟩ := Rd.elInt rd81 hai
        refine W.q (v := .pointer (some ⟨b84, o85 + i, none⟩)) (hr := (r_idx1 (n := (ValvesAround_v0 m ps vs id).length) (c := c21) (k := i) rfl (by kernel_rfl) hA86 (by kernel_rfl) (by kernel_rfl) (by have := hl23; omega))) (h := ?_)
        refine W.ld (v := .int .i64 va9.id) (hc := (sgS hc88 (sp0_10_12 (by omega) _ _ hA86))) (h := ?_)
        refine W.sn (fun b => .slice (some ⟨b, 0, none⟩) 1 1) #[.int .i64 va9.id] 3 s83 rfl (by kernel_rfl) rfl (fun _ => by kernel_rfl) (fun b89 w90 hb91 k92 x93 s94 => ?_)
        have lo95 : w.heap.size ≤ b89 := by have := ((SG.belowR c80 s83 (fun kq e => (World.ownsRow.lt ho77 kq e).1))).size; omega
        have sp96 : Sp A19 ((ValvesAround_v0 m ps vs id).length) (some b89) := sp_new rd81 (by have := World.grownBy.size s83; have := hb91; omega)
        have sp97 : Sp A44 n45 (some b89) := sp_new rd82 (by have := World.grownBy.size s83; have := hb91; omega)
        have ne98 : b2 ≠ b89 := by have := blk_lt x6; have := World.grownBy.size s83; omega
        have nb99 : Nb b89 (.slice A0_12 n0_12 c0_12) := nb_hi ho77 (Nat.le_of_eq hb91)
        have ho100 := own_kept ho77 k92
        refine W.sap (e := 3) (size := 1) (base := w.heap.size) (m := 1) (v := .slice A0_12 n0_12 c0_12) (c := 1) s94 rfl rfl rfl rfl (by kernel_rfl) (by kernel_rfl) (by kernel_rfl) ho100 x93 (by kernel_rfl) (by kernel_rfl) (by omega) (by omega) (by have := ((SG.belowR c80 s94 (fun kq e => (World.ownsRow.lt ho77 kq e).1))).size; omega) (.inl rfl) (fun g101 cap102 w103 ho104 hg105 hat106 hlt107 s108 => ?_)
        have nb109 : Nb b2 (.slice (some ⟨g101, 0, none⟩) (n0_12 + 1) cap102) := nb_app nb0_12_b2 (Nat.lt_of_lt_of_le (blk_lt x6) (World.grownBy.size s94)) hat106
        have nb110 : Nb b89 (.slice (some ⟨g101, 0, none⟩) (n0_12 + 1) cap102) := nb_app nb99 (blk_lt x93) hat106
        have x93 := (hg105.block _ (blk_lt x93) nb99).trans x93
        have ho104 := own_snoc ho104
        have sp111 := sp_app (v' := .slice (some ⟨g101, 0, none⟩) (n0_12 + 1) cap102) sp0_10_12 rd81 (World.grownBy.size s94) (hat3 (v := .slice A0_12 n0_12 c0_12) hat106)
        have sp112 := sp_app (v' := .slice (some ⟨g101, 0, none⟩) (n0_12 + 1) cap102) sp0_13_12 rd82 (World.grownBy.size s94) (hat3 (v := .slice A0_12 n0_12 c0_12) hat106)
        refine W.as (v := .slice (some ⟨g101, 0, none⟩) (n0_12 + 1) cap102) (h := ?_)
        refine W.endF 60 [(0, .agg #[.int .i64 m, .slice A n c]), (1, .slice A2 n2 c2), (2, .int .i64 s), (3, .int .i64 id), (4, .pointer (some ⟨b2, 0, none⟩)), (8, .slice none 0 0), (9, .bool false), (10, .slice A19 ((ValvesAround_v0 m ps vs id).length) c21), (12, .slice (some ⟨g101, 0, none⟩) (n0_12 + 1) cap102), (13, .slice A44 n45 c46), (14, .int .i64 ((i : Nat) : Int)), (20, .bool false), (35, .bool true), (43, .bool true)] (fun U113 => ?_)
        have x6 := SG.blk s108 x6 nb0_12_b2
        have c114 := (SG.belowR c80 s108 (fun kq e => (World.ownsRow.lt ho77 kq e).1))
        have rd115 := rd_sep rd81 s108 sp0_10_12
        have rd116 := rd_sep rd82 s108 sp0_13_12
        refine h12 _ _ ?_
        refine W.region_quiet [(0, false), (1, false), (2, false)] (by kernel_rfl) ?_
        refine W.mv (v := .int .i64 ((i : Nat) : Int)) (h := ?_)
        refine W.q (v := .int .i64 ((i + 1 : Nat) : Int)) (hr := (r_add (m := ((i : Nat) : Int)) (n := 1) (z := ((i + 1 : Nat) : Int)) rfl (by kernel_rfl) (by kernel_rfl) (by omega) (by omega))) (h := ?_)
        refine W.as (v := .int .i64 ((i + 1 : Nat) : Int)) (h := ?_)
        refine W.endF 60 [(0, .agg #[.int .i64 m, .slice A n c]), (1, .slice A2 n2 c2), (2, .int .i64 s), (3, .int .i64 id), (4, .pointer (some ⟨b2, 0, none⟩)), (8, .slice none 0 0), (9, .bool false), (10, .slice A19 ((ValvesAround_v0 m ps vs id).length) c21), (12, .slice (some ⟨g101, 0, none⟩) (n0_12 + 1) cap102), (13, .slice A44 n45 c46), (14, .int .i64 ((i + 1 : Nat) : Int)), (20, .bool false), (35, .bool true), (43, .bool true)] (fun U117 => ?_)
        exact h9 _ _ _ (by omega : ((ValvesAround_v0 m ps vs id).length - (i + 1)) < _) ⟨i + 1, (some ⟨g101, 0, none⟩), (n0_12 + 1), cap102, (fun iU9 => lk [(0, .agg #[.int .i64 m, .slice A n c]), (1, .slice A2 n2 c2), (2, .int .i64 s), (3, .int .i64 id), (4, .pointer (some ⟨b2, 0, none⟩)), (8, .slice none 0 0), (9, .bool false), (10, .slice A19 ((ValvesAround_v0 m ps vs id).length) c21), (12, .slice (some ⟨g101, 0, none⟩) (n0_12 + 1) cap102), (13, .slice A44 n45 c46), (14, .int .i64 ((i + 1 : Nat) : Int)), (20, .bool false), (35, .bool true), (43, .bool true)] iU9 (U117 iU9)), (by kernel_rfl), rfl, (by omega), (by omega), x6, (by rw [segIds_yes hya hva9 (by have h9 := q78; rw [open_first hv9 hva9 rfl] at h9; simpa using h9)]; exact ho104), nb109, rd115, rd116, sp111, sp112, c114⟩
      · rw [q78]
        refine W.endF 60 [(0, .agg #[.int .i64 m, .slice A n c]), (1, .slice A2 n2 c2), (2, .int .i64 s), (3, .int .i64 id), (4, .pointer (some ⟨b2, 0, none⟩)), (8, .slice none 0 0), (9, .bool false), (10, .slice A19 ((ValvesAround_v0 m ps vs id).length) c21), (12, .slice A0_12 n0_12 c0_12), (13, .slice A44 n45 c46), (14, .int .i64 ((i : Nat) : Int)), (20, .bool false), (35, .bool true), (43, .bool false)] (fun U118 => ?_)
        have x6 := SG.blk s76 x6 (by simp)
        have c119 := (SG.belowR c65 s76 (fun kq e => by cases e))
        have rd120 := Rd.kept rd0_10 (SG.below s76)
        have rd121 := Rd.kept rd0_13 (SG.below s76)
        refine h13 _ _ ?_
        refine wp_cond_false (by kernel_rfl) ?_
        refine wp_skip ?_
        refine h12 _ _ ?_
        refine W.region_quiet [(0, false), (1, false), (2, false)] (by kernel_rfl) ?_
        refine W.mv (v := .int .i64 ((i : Nat) : Int)) (h := ?_)
        refine W.q (v := .int .i64 ((i + 1 : Nat) : Int)) (hr := (r_add (m := ((i : Nat) : Int)) (n := 1) (z := ((i + 1 : Nat) : Int)) rfl (by kernel_rfl) (by kernel_rfl) (by omega) (by omega))) (h := ?_)
        refine W.as (v := .int .i64 ((i + 1 : Nat) : Int)) (h := ?_)
        refine W.endF 60 [(0, .agg #[.int .i64 m, .slice A n c]), (1, .slice A2 n2 c2), (2, .int .i64 s), (3, .int .i64 id), (4, .pointer (some ⟨b2, 0, none⟩)), (8, .slice none 0 0), (9, .bool false), (10, .slice A19 ((ValvesAround_v0 m ps vs id).length) c21), (12, .slice A0_12 n0_12 c0_12), (13, .slice A44 n45 c46), (14, .int .i64 ((i + 1 : Nat) : Int)), (20, .bool false), (35, .bool true), (43, .bool false)] (fun U122 => ?_)
        exact h9 _ _ _ (by omega : ((ValvesAround_v0 m ps vs id).length - (i + 1)) < _) ⟨i + 1, A0_12, n0_12, c0_12, (fun iU9 => lk [(0, .agg #[.int .i64 m, .slice A n c]), (1, .slice A2 n2 c2), (2, .int .i64 s), (3, .int .i64 id), (4, .pointer (some ⟨b2, 0, none⟩)), (8, .slice none 0 0), (9, .bool false), (10, .slice A19 ((ValvesAround_v0 m ps vs id).length) c21), (12, .slice A0_12 n0_12 c0_12), (13, .slice A44 n45 c46), (14, .int .i64 ((i + 1 : Nat) : Int)), (20, .bool false), (35, .bool true), (43, .bool false)] iU9 (U122 iU9)), (by kernel_rfl), rfl, (by omega), (by omega), x6, (by rw [segIds_no hya hva9 (by have h9 := q78; rw [open_first hv9 hva9 rfl] at h9; simpa using h9)]; exact ho77), nb0_12_b2, rd120, rd121, sp0_10_12, sp0_13_12, c119⟩
    · refine W.q (v := .bool false) (hr := (r_lss (m := ((i : Nat) : Int)) (n := (((ValvesAround_v0 m ps vs id).length : Nat) : Int)) rfl (by kernel_rfl) (by kernel_rfl) (decide_eq_false q66))) (h := ?_)
      refine W.endF 60 [(0, .agg #[.int .i64 m, .slice A n c]), (1, .slice A2 n2 c2), (2, .int .i64 s), (3, .int .i64 id), (4, .pointer (some ⟨b2, 0, none⟩)), (8, .slice none 0 0), (9, .bool false), (10, .slice A19 ((ValvesAround_v0 m ps vs id).length) c21), (12, .slice A0_12 n0_12 c0_12), (13, .slice A44 n45 c46), (14, .int .i64 ((i : Nat) : Int)), (20, .bool false), (35, .bool false)] (fun U123 => ?_)
      refine h11 _ _ ?_
      refine wp_cond_false (by kernel_rfl) ?_
      refine wp_exit ?_
      refine h7 _ _ ?_
      refine wp_seq_k (fun K14 h14 => ?_)
      refine wp_seq_k (fun K15 h15 => ?_)
      refine W.region_plain (row := none) [(0, false), (1, false), (2, false), (3, false), (4, false), (5, true), (6, false)] (by kernel_rfl) ?_
      have s124 := SG.self wl0 none
      refine W.q (v := .agg #[.int .i64 m, .slice A n c]) (hr := (r_load2 rfl (by kernel_rfl) (by kernel_rfl) (by kernel_rfl) (sgS (blk_cell (j := 0) x6 (by kernel_rfl)) (by simp)) (sgS (blk_cell (j := 1) x6 (by kernel_rfl)) (by simp)))) (h := ?_)
      refine W.mv (v := .slice A2 n2 c2) (h := ?_)
      refine W.mv (v := .int .i64 s) (h := ?_)
      refine W.mv (v := .int .i64 id) (h := ?_)
      refine W.mv (v := .slice A0_12 n0_12 c0_12) (h := ?_)
      refine W.sc (vs := [.agg #[.int .i64 m, .slice A n c], .slice A2 n2 c2, .int .i64 s, .int .i64 id, .slice A0_12 n0_12 c0_12]) rfl rfl (by kernel_rfl) (by kernel_rfl) (by kernel_rfl) rfl (l5Cut_any m A n c ps A2 n2 c2 vs s id A0_12 n0_12 c0_12 (segIds vs ((aroundI ps vs (9 + findL ps id) vs.length).take i)) _ (Rd.kept ha (SG.belowR c65 s124 (fun kq e => by cases e))) (Rd.kept hb (SG.belowR c65 s124 (fun kq e => by cases e))) (by omega) (by omega) hfm2 hv9 hs hfa (own_rd ho0_12) (by omega)) ?_
      rintro e w126 ⟨rfl, b125⟩
      have s127 := SG.of_below s124 b125
      refine ⟨_, rfl, s127, ?_⟩
      have ho128 := own_kept ho0_12 b125
      rcases Bool.eq_false_or_eq_true (cutB ps vs s id (segIds vs ((aroundI ps vs (9 + findL ps id) vs.length).take i))) with q129 | q129
      · rw [q129]
        refine W.q (v := .bool false) (hr := (r_not (b := true) rfl (by kernel_rfl) rfl)) (h := ?_)
        refine W.endF 60 [(0, .agg #[.int .i64 m, .slice A n c]), (1, .slice A2 n2 c2), (2, .int .i64 s), (3, .int .i64 id), (4, .pointer (some ⟨b2, 0, none⟩)), (8, .slice none 0 0), (9, .bool false), (10, .slice A19 ((ValvesAround_v0 m ps vs id).length) c21), (12, .slice A0_12 n0_12 c0_12), (13, .slice A44 n45 c46), (14, .int .i64 ((i : Nat) : Int)), (20, .bool false), (35, .bool false), (57, .bool false)] (fun U130 => ?_)
        have x6 := SG.blk s127 x6 (by simp)
        have c131 := (SG.belowR c65 s127 (fun kq e => by cases e))
        have rd132 := Rd.kept rd0_10 (SG.below s127)
        have rd133 := Rd.kept rd0_13 (SG.below s127)
        refine h15 _ _ ?_
        refine wp_cond_false (by kernel_rfl) ?_
        refine wp_skip ?_
        refine h14 _ _ ?_
        refine wp_seq_k (fun K16 h16 => ?_)
        refine W.region_quiet [(0, false), (1, false), (2, false)] (by kernel_rfl) ?_
        refine W.mv (v := .slice A0_12 n0_12 c0_12) (h := ?_)
        refine W.as (v := .slice A0_12 n0_12 c0_12) (h := ?_)
        refine W.as (v := .bool true) (h := ?_)
        refine W.endF 60 [(0, .agg #[.int .i64 m, .slice A n c]), (1, .slice A2 n2 c2), (2, .int .i64 s), (3, .int .i64 id), (4, .pointer (some ⟨b2, 0, none⟩)), (8, .slice A0_12 n0_12 c0_12), (9, .bool true), (10, .slice A19 ((ValvesAround_v0 m ps vs id).length) c21), (12, .slice A0_12 n0_12 c0_12), (13, .slice A44 n45 c46), (14, .int .i64 ((i : Nat) : Int)), (20, .bool false), (35, .bool false), (57, .bool false)] (fun U134 => ?_)
        refine h16 _ _ ?_
        refine wp_ret ?_
        try simp only [Exit.then]
        refine ret2 (v := .slice A0_12 n0_12 c0_12) (x := .bool true) rfl (by kernel_rfl) (by kernel_rfl) ?_
        have e8 : SegmentPlan_v1 m ps vs s id = true := by unfold SegmentPlan_v1 segPlan; rw [q15, show segIds vs (aroundI ps vs (9 + findL ps id) vs.length) = segIds vs ((aroundI ps vs (9 + findL ps id) vs.length).take i) from by rw [List.take_of_length_le (by omega)], q129]; rfl
        exact fin_rd  (own_rd ho128) (by unfold SegmentPlan_v0 segPlan; rw [if_pos e8, List.take_of_length_le (by omega)]) e8.symm c131
      · rw [q129]
        refine W.q (v := .bool true) (hr := (r_not (b := false) rfl (by kernel_rfl) rfl)) (h := ?_)
        refine W.endF 60 [(0, .agg #[.int .i64 m, .slice A n c]), (1, .slice A2 n2 c2), (2, .int .i64 s), (3, .int .i64 id), (4, .pointer (some ⟨b2, 0, none⟩)), (8, .slice none 0 0), (9, .bool false), (10, .slice A19 ((ValvesAround_v0 m ps vs id).length) c21), (12, .slice A0_12 n0_12 c0_12), (13, .slice A44 n45 c46), (14, .int .i64 ((i : Nat) : Int)), (20, .bool false), (35, .bool false), (57, .bool true)] (fun U135 => ?_)
        have x6 := SG.blk s127 x6 (by simp)
        have c136 := (SG.belowR c65 s127 (fun kq e => by cases e))
        have rd137 := Rd.kept rd0_10 (SG.below s127)
        have rd138 := Rd.kept rd0_13 (SG.below s127)
        refine h15 _ _ ?_
        refine wp_cond_true (by kernel_rfl) ?_
        refine wp_seq_k (fun K17 h17 => ?_)
        refine W.region_plain (row := none) [(0, true), (1, false), (2, false)] (by kernel_rfl) ?_
        have s139 := SG.self w126 none
        refine W.sn (fun b => .slice (some ⟨b, 0, none⟩) 0 0) #[] 3 s139 rfl (by kernel_rfl) rfl (fun _ => by kernel_rfl) (fun b140 w141 hb142 k143 x144 s145 => ?_)
        have lo146 : w.heap.size ≤ b140 := by have := ((SG.belowR c136 s139 (fun kq e => by cases e))).size; omega
        have sp147 : Sp A19 ((ValvesAround_v0 m ps vs id).length) (some b140) := sp_new rd137 (by have := World.grownBy.size s139; have := hb142; omega)
        have sp148 : Sp A44 n45 (some b140) := sp_new rd138 (by have := World.grownBy.size s139; have := hb142; omega)
        have ne149 : b2 ≠ b140 := by have := blk_lt x6; have := World.grownBy.size s139; omega
        have nb150 : Nb b140 (.slice A0_12 n0_12 c0_12) := nb_hi ho128 (Nat.le_of_eq hb142)
        have ho151 := own_kept ho128 k143
        refine W.as (v := .slice (some ⟨b140, 0, none⟩) 0 0) (h := ?_)
        refine W.as (v := .bool false) (h := ?_)
        refine W.endF 60 [(0, .agg #[.int .i64 m, .slice A n c]), (1, .slice A2 n2 c2), (2, .int .i64 s), (3, .int .i64 id), (4, .pointer (some ⟨b2, 0, none⟩)), (8, .slice (some ⟨b140, 0, none⟩) 0 0), (9, .bool false), (10, .slice A19 ((ValvesAround_v0 m ps vs id).length) c21), (12, .slice A0_12 n0_12 c0_12), (13, .slice A44 n45 c46), (14, .int .i64 ((i : Nat) : Int)), (20, .bool false), (35, .bool false), (57, .bool true)] (fun U152 => ?_)
        have x6 := SG.blk s145 x6 (by simp)
        have c153 := (SG.belowR c136 s145 (fun kq e => by cases e))
        have rd154 := Rd.kept rd137 (SG.below s145)
        have rd155 := Rd.kept rd138 (SG.below s145)
        refine h17 _ _ ?_
        refine wp_ret ?_
        try simp only [Exit.then]
        refine ret2 (v := .slice (some ⟨b140, 0, none⟩) 0 0) (x := .bool false) rfl (by kernel_rfl) (by kernel_rfl) ?_
        have ho156 := own_empty (base := w.heap.size) (size := 1) x144 lo146
        replace ho156 : World.ownsRow _ _ _ _ _ _ (intsV []) := ho156
        have nr157 : NbR (.slice (some ⟨b140, 0, none⟩) 0 0) (.slice A0_12 n0_12 c0_12) := nbr_new nb150
        have sp158 := sp_own (n' := 0) (c := 0) sp147
        have sp159 := sp_own (n' := 0) (c := 0) sp148
        have nb160 : Nb b2 (.slice (some ⟨b140, 0, none⟩) 0 0) := nb_new (by have := ne149; omega)
        have e8 : SegmentPlan_v1 m ps vs s id = false := by unfold SegmentPlan_v1 segPlan; rw [show segIds vs (aroundI ps vs (9 + findL ps id) vs.length) = segIds vs ((aroundI ps vs (9 + findL ps id) vs.length).take i) from by rw [List.take_of_length_le (by omega)], q129, Bool.and_false]
        exact fin_rd (zs := []) (own_rd ho156) (by unfold SegmentPlan_v0; rw [if_neg (by rw [e8]; simp)]) e8.symm c153
  · rw [q15]
    refine W.q (v := .bool true) (hr := (r_not (b := false) rfl (by kernel_rfl) rfl)) (h := ?_)
    refine W.endF 60 [(0, .agg #[.int .i64 m, .slice A n c]), (1, .slice A2 n2 c2), (2, .int .i64 s), (3, .int .i64 id), (4, .pointer (some ⟨b2, 0, none⟩)), (8, .slice none 0 0), (9, .bool false), (20, .bool true)] (fun U161 => ?_)
    have x6 := SG.blk s14 x6 (by simp)
    have c162 := (SG.belowR c10 s14 (fun kq e => by cases e))
    refine h3 _ _ ?_
    refine wp_cond_true (by kernel_rfl) ?_
    refine wp_seq_k (fun K18 h18 => ?_)
    refine W.region_plain (row := none) [(0, true), (1, false), (2, false)] (by kernel_rfl) ?_
    have s163 := SG.self w13 none
    refine W.sn (fun b => .slice (some ⟨b, 0, none⟩) 0 0) #[] 3 s163 rfl (by kernel_rfl) rfl (fun _ => by kernel_rfl) (fun b164 w165 hb166 k167 x168 s169 => ?_)
    have lo170 : w.heap.size ≤ b164 := by have := ((SG.belowR c162 s163 (fun kq e => by cases e))).size; omega
    have ne171 : b2 ≠ b164 := by have := blk_lt x6; have := World.grownBy.size s163; omega
    refine W.as (v := .slice (some ⟨b164, 0, none⟩) 0 0) (h := ?_)
    refine W.as (v := .bool false) (h := ?_)
    refine W.endF 60 [(0, .agg #[.int .i64 m, .slice A n c]), (1, .slice A2 n2 c2), (2, .int .i64 s), (3, .int .i64 id), (4, .pointer (some ⟨b2, 0, none⟩)), (8, .slice (some ⟨b164, 0, none⟩) 0 0), (9, .bool false), (20, .bool true)] (fun U172 => ?_)
    have x6 := SG.blk s169 x6 (by simp)
    have c173 := (SG.belowR c162 s169 (fun kq e => by cases e))
    refine h18 _ _ ?_
    refine wp_ret ?_
    try simp only [Exit.then]
    refine ret2 (v := .slice (some ⟨b164, 0, none⟩) 0 0) (x := .bool false) rfl (by kernel_rfl) (by kernel_rfl) ?_
    have ho174 := own_empty (base := w.heap.size) (size := 1) x168 lo170
    replace ho174 : World.ownsRow _ _ _ _ _ _ (intsV []) := ho174
    have nb175 : Nb b2 (.slice (some ⟨b164, 0, none⟩) 0 0) := nb_new (by have := ne171; omega)
    have e8 : SegmentPlan_v1 m ps vs s id = false := by unfold SegmentPlan_v1; rw [q15]; rfl
    exact fin_rd (zs := []) (own_rd ho174) (by unfold SegmentPlan_v0; rw [if_neg (by rw [e8]; simp)]) e8.symm c173

end Go.Proofs.Ytnfmdkbelbppdaa
