/- Segments and dry elements: both packages answer alike. -/
import Derived.Test.YthdmbndndfiidaaNap
import Derived.Test.YthdmbndndfiidaaValG
import Derived.Test.YthdmbndndfiidaaIsV
namespace Go.Proofs.Ythdmbndndfiidaa
open Go.RowKit
set_option linter.unusedVariables false
set_option linter.unusedSimpArgs false

theorem nbr_nil {n c : Nat} {u : Value} : NbR (.slice none n c) u := fun j e _ => by simp [Value.ownBlock] at e
/-- Two lists of the call's own, side by side, and a bool. -/
theorem fin_ints2 {w w' : World} {e : TypeId} {A A' : Option Addr} {n c n' c' : Nat} {zs vs zs' vs' : List Int} {b vb : Bool} (how : w'.ownsRow w.heap.size e 1 (.slice A n c) n (intsV zs)) (how' : w'.ownsRow w.heap.size e 1 (.slice A' n' c') n' (intsV zs')) (hz : zs = vs) (hz' : zs' = vs') (hb : b = vb) (nr : NbR (.slice A n c) (.slice A' n' c')) (bel : Below w.heap.size w w') :
    ∃ A0 d0 A1 d1, Ending.returned (.tuple #[.slice A n c, .slice A' n' c', .bool b]) = .returned (.tuple #[.slice A0 vs.length d0, .slice A1 vs'.length d1, .bool vb]) ∧ w'.ownsRow w.heap.size e 1 (.slice A0 vs.length d0) vs.length (intsV vs) ∧ w'.ownsRow w.heap.size e 1 (.slice A1 vs'.length d1) vs'.length (intsV vs') ∧ NbR (.slice A0 vs.length d0) (.slice A1 vs'.length d1) ∧ Below w.heap.size w w' := by
  subst hz hz' hb
  have hl := own_len how
  have hl' := own_len how'
  rw [ints_len] at hl hl'
  subst hl hl'
  exact ⟨_, _, _, _, rfl, how, how', nr, bel⟩
theorem fin_rd2 {w w' : World} {A A' : Option Addr} {n c n' c' : Nat} {zs vs zs' vs' : List Int} {b vb : Bool} (how : Rd w' 1 A n (intsV zs)) (how' : Rd w' 1 A' n' (intsV zs')) (hz : zs = vs) (hz' : zs' = vs') (hb : b = vb) (bel : Below w.heap.size w w') :
    ∃ A0 d0 A1 d1, Ending.returned (.tuple #[.slice A n c, .slice A' n' c', .bool b]) = .returned (.tuple #[.slice A0 vs.length d0, .slice A1 vs'.length d1, .bool vb]) ∧ Rd w' 1 A0 vs.length (intsV vs) ∧ Rd w' 1 A1 vs'.length (intsV vs') ∧ Below w.heap.size w w' := by
  subst hz hz' hb
  have hl := rd_ints_len how
  have hl' := rd_ints_len how'
  subst hl hl'
  exact ⟨_, _, _, _, rfl, how, how', bel⟩
theorem fin_rd {w w' : World} {A : Option Addr} {n c : Nat} {zs vs : List Int} {b vb : Bool} (how : Rd w' 1 A n (intsV zs)) (hz : zs = vs) (hb : b = vb) (bel : Below w.heap.size w w') :
    ∃ A' d, Ending.returned (.tuple #[.slice A n c, .bool b]) = .returned (.tuple #[.slice A' vs.length d, .bool vb]) ∧ Rd w' 1 A' vs.length (intsV vs) ∧ Below w.heap.size w w' := by
  subst hz hb
  have hl := rd_ints_len how
  subst hl
  exact ⟨_, _, rfl, how, bel⟩

def SegmentOfPipe_v2 (m : Int) (ps : List Pp) (vs : List Vv) (a : Int) : Bool := goodV m ps vs && decide (0 ≤ findL ps a)
noncomputable def SegmentOfPipe_v0 (m : Int) (ps : List Pp) (vs : List Vv) (a : Int) : List Int := if SegmentOfPipe_v2 m ps vs a = true then nodesL (linked ps (openQ vs false)) m.toNat (9 + findL ps a) true else []
theorem SegmentOfPipe_len (m : Int) (ps : List Pp) (vs : List Vv) (a : Int) : (SegmentOfPipe_v0 m ps vs a).length ≤ 1048576 := by
  unfold SegmentOfPipe_v0
  split
  · rename_i h
    have hg : goodV m ps vs = true := by unfold SegmentOfPipe_v2 at h; rw [Bool.and_eq_true] at h; exact h.1
    have hv := goodV_of hg
    have h1 := hv.net.hi
    have h2 := hv.net.len
    skip
    have := nodesL_len (linked ps (openQ vs false)) m.toNat (9 + findL ps a) true
    omega
  · simp
noncomputable def SegmentOfPipe_v1 (m : Int) (ps : List Pp) (vs : List Vv) (a : Int) : List Int := if SegmentOfPipe_v2 m ps vs a = true then idsAt ps (idxL (linked ps (openQ vs false)) ps.length (9 + findL ps a) true) else []
theorem SegmentOfPipe_len1 (m : Int) (ps : List Pp) (vs : List Vv) (a : Int) : (SegmentOfPipe_v1 m ps vs a).length ≤ 1048576 := by
  unfold SegmentOfPipe_v1
  split
  · rename_i h
    have hg : goodV m ps vs = true := by unfold SegmentOfPipe_v2 at h; rw [Bool.and_eq_true] at h; exact h.1
    have hv := goodV_of hg
    have h1 := hv.net.hi
    have h2 := hv.net.len
    rw [idsAt_len]
    have := idxL_len (linked ps (openQ vs false)) ps.length (9 + findL ps a) true
    omega
  · simp

set_option maxRecDepth 100000 in
set_option maxHeartbeats 1000000 in
theorem SegmentOfPipe_spec (m : Int) (A : Option Addr) (n c : Nat) (ps : List Pp) (A2 : Option Addr) (n2 c2 : Nat) (vs : List Vv) (a : Int) (w : World) (ha : Rd w 4 A n (pipesV ps)) (hb : Rd w 4 A2 n2 (valvesV vs)) (hn : n ≤ 1048576) (hn2 : n2 ≤ 1048576) (hfm : Fm A n c) (hfm2 : Fm A2 n2 c2) :
    Calls Try.prog 22 #[.agg #[.int .i64 m, .slice A n c], .slice A2 n2 c2, .int .i64 a] w fun e w' => ∃ A0 d0 A1 d1, e = .returned (.tuple #[.slice A0 (SegmentOfPipe_v0 m ps vs a).length d0, .slice A1 (SegmentOfPipe_v1 m ps vs a).length d1, .bool (SegmentOfPipe_v2 m ps vs a)]) ∧ Rd w' 1 A0 (SegmentOfPipe_v0 m ps vs a).length (intsV (SegmentOfPipe_v0 m ps vs a)) ∧ Rd w' 1 A1 (SegmentOfPipe_v1 m ps vs a).length (intsV (SegmentOfPipe_v1 m ps vs a)) ∧ Below w.heap.size w w' := by
  have hl := rd_pipes_len ha
  have hl2 := rd_valves_len hb
  have hfl := findL_lt ps a
  go_enter Try.func22, Try.ntmps22
  refine wp_seq_k (fun K1 h1 => ?_)
  refine W.region_plain (row := none) [(0, true), (1, false), (2, false), (3, false)] (by kernel_rfl) ?_
  have s1 := SG.self w none
  refine W.sn (fun b => .pointer (some ⟨b, 0, none⟩)) #[.int .i64 m, .slice A n c] 31 s1 rfl (by kernel_rfl) rfl (fun _ => by kernel_rfl) (fun b2 w3 hb4 k5 x6 s7 => ?_)
  have lo8 : w.heap.size ≤ b2 := by have := ((SG.belowR (Below.refl _ _) s1 (fun kq e => by cases e))).size; omega
  refine W.sq (v := .slice none 0 0) rfl (r_assign rfl (by kernel_rfl)) (by kernel_rfl) rfl rfl ?_
  refine W.sq (v := .slice none 0 0) rfl (r_assign rfl (by kernel_rfl)) (by kernel_rfl) rfl rfl ?_
  refine W.sq (v := .bool false) rfl (r_assign rfl (by kernel_rfl)) (by kernel_rfl) rfl rfl ?_
  refine W.sch_end (l' := [.agg #[.int .i64 m, .slice A n c], .slice A2 n2 c2, .int .i64 a, .pointer (some ⟨b2, 0, none⟩), undef, undef, .slice none 0 0, .slice none 0 0, .bool false, undef, undef, undef, undef, undef, undef, undef, undef, undef, undef, undef, undef, undef, undef, undef, undef, undef, undef, undef, undef, undef, undef, undef, undef, undef, undef, undef, undef, undef]) (by kernel_rfl) ?_
  have c9 := (SG.belowR (Below.refl _ _) s7 (fun kq e => by cases e))
  refine h1 _ _ ?_
  refine wp_seq_k (fun K2 h2 => ?_)
  refine W.region_plain (row := none) [(0, false), (1, false), (2, true), (3, false)] (by kernel_rfl) ?_
  have s10 := SG.self w3 none
  refine W.sq (v := .agg #[.int .i64 m, .slice A n c]) rfl (r_load2 rfl (by kernel_rfl) (by kernel_rfl) (by kernel_rfl) (sgS (blk_cell (j := 0) x6 (by kernel_rfl)) (by simp)) (sgS (blk_cell (j := 1) x6 (by kernel_rfl)) (by simp))) (by kernel_rfl) rfl rfl ?_
  refine W.sq (v := .int .i64 a) rfl (r_move rfl (by kernel_rfl)) (by kernel_rfl) rfl rfl ?_
  refine W.sc (vs := [.agg #[.int .i64 m, .slice A n c], .int .i64 a]) rfl rfl (by kernel_rfl) (by kernel_rfl) (by kernel_rfl) rfl (l2Find_any m A n c ps a _ (Rd.kept ha (SG.belowR c9 s10 (fun kq e => by cases e))) (by omega)) ?_
  rintro e w12 ⟨rfl, b11⟩
  have s13 := SG.of_below s10 b11
  refine ⟨_, rfl, s13, ?_⟩
  refine W.sq (v := .int .i64 (findL ps a)) rfl (r_assign rfl (by kernel_rfl)) (by kernel_rfl) rfl rfl ?_
  refine W.sch_end (l' := [.agg #[.int .i64 m, .slice A n c], .slice A2 n2 c2, .int .i64 a, .pointer (some ⟨b2, 0, none⟩), undef, undef, .slice none 0 0, .slice none 0 0, .bool false, .int .i64 (findL ps a), undef, undef, .agg #[.int .i64 m, .slice A n c], .int .i64 a, .int .i64 (findL ps a), undef, undef, undef, undef, undef, undef, undef, undef, undef, undef, undef, undef, undef, undef, undef, undef, undef, undef, undef, undef, undef, undef, undef]) (by kernel_rfl) ?_
  have x6 := SG.blk s13 x6 (by simp)
  have c14 := (SG.belowR c9 s13 (fun kq e => by cases e))
  refine h2 _ _ ?_
  refine wp_seq_k (fun K3 h3 => ?_)
  refine wp_seq_k (fun K4 h4 => ?_)
  refine W.region_plain (row := none) [(0, false), (1, false), (2, true), (3, false), (4, false), (5, false), (6, false), (7, false)] (by kernel_rfl) ?_
  have s15 := SG.self w12 none
  refine W.sq (v := .agg #[.int .i64 m, .slice A n c]) rfl (r_load2 rfl (by kernel_rfl) (by kernel_rfl) (by kernel_rfl) (sgS (blk_cell (j := 0) x6 (by kernel_rfl)) (by simp)) (sgS (blk_cell (j := 1) x6 (by kernel_rfl)) (by simp))) (by kernel_rfl) rfl rfl ?_
  refine W.sq (v := .slice A2 n2 c2) rfl (r_move rfl (by kernel_rfl)) (by kernel_rfl) rfl rfl ?_
  refine W.sc (vs := [.agg #[.int .i64 m, .slice A n c], .slice A2 n2 c2]) rfl rfl (by kernel_rfl) (by kernel_rfl) (by kernel_rfl) rfl (l4Good_any m A n c ps A2 n2 c2 vs _ (Rd.kept ha (SG.belowR c14 s15 (fun kq e => by cases e))) (Rd.kept hb (SG.belowR c14 s15 (fun kq e => by cases e))) (by omega) (by omega)) ?_
  rintro e w17 ⟨rfl, b16⟩
  have s18 := SG.of_below s15 b16
  refine ⟨_, rfl, s18, ?_⟩
  rcases Bool.eq_false_or_eq_true (goodV m ps vs) with q19 | q19
  · rw [q19]
    have hv9 := goodV_of q19
    have hg := hv9.net
    have hgl := hg.lo
    have hgh := hg.hi
    have hp := hg.pipesIn
    have hlen10 := hg.len
    have hu := hv9.uniq
    have hvl := hv9.len
    refine W.sq (v := .bool false) rfl (r_not (b := true) rfl (by kernel_rfl) rfl) (by kernel_rfl) rfl rfl ?_
    refine W.sq (v := .bool false) rfl (r_move rfl (by kernel_rfl)) (by kernel_rfl) rfl rfl ?_
    refine W.sq (v := .int .i64 (findL ps a)) rfl (r_move rfl (by kernel_rfl)) (by kernel_rfl) rfl rfl ?_
    by_cases q20 : (findL ps a : Int) < (0 : Int)
    · refine W.sq (v := .bool true) rfl (r_lss (m := findL ps a) (n := 0) rfl (by kernel_rfl) (by kernel_rfl) (decide_eq_true q20)) (by kernel_rfl) rfl rfl ?_
      refine W.sq (v := .bool true) rfl (r_pick (b := false) rfl (by kernel_rfl) (by kernel_rfl)) (by kernel_rfl) rfl rfl ?_
      refine W.sch_end (l' := [.agg #[.int .i64 m, .slice A n c], .slice A2 n2 c2, .int .i64 a, .pointer (some ⟨b2, 0, none⟩), undef, undef, .slice none 0 0, .slice none 0 0, .bool false, .int .i64 (findL ps a), undef, undef, .agg #[.int .i64 m, .slice A n c], .int .i64 a, .int .i64 (findL ps a), .agg #[.int .i64 m, .slice A n c], .slice A2 n2 c2, .bool true, .bool false, .bool false, .int .i64 (findL ps a), .bool true, .bool true, undef, undef, undef, undef, undef, undef, undef, undef, undef, undef, undef, undef, undef, undef, undef]) (by kernel_rfl) ?_
      have x6 := SG.blk s18 x6 (by simp)
      have c21 := (SG.belowR c14 s18 (fun kq e => by cases e))
      refine h4 _ _ ?_
      refine wp_cond_true (by kernel_rfl) ?_
      refine wp_seq_k (fun K5 h5 => ?_)
      refine W.region_plain (row := none) [(0, true), (1, true), (2, false), (3, false), (4, false)] (by kernel_rfl) ?_
      have s22 := SG.self w17 none
      refine W.sn (fun b => .slice (some ⟨b, 0, none⟩) 0 0) #[] 3 s22 rfl (by kernel_rfl) rfl (fun _ => by kernel_rfl) (fun b23 w24 hb25 k26 x27 s28 => ?_)
      have lo29 : w.heap.size ≤ b23 := by have := ((SG.belowR c21 s22 (fun kq e => by cases e))).size; omega
      have ne30 : b2 ≠ b23 := by have := blk_lt x6; have := World.grownBy.size s22; omega
      refine W.sn (fun b => .slice (some ⟨b, 0, none⟩) 0 0) #[] 3 s28 rfl (by kernel_rfl) rfl (fun _ => by kernel_rfl) (fun b31 w32 hb33 k34 x35 s36 => ?_)
      have lo37 : w.heap.size ≤ b31 := by have := ((SG.belowR c21 s28 (fun kq e => by cases e))).size; omega
      have ne38 : b2 ≠ b31 := by have := blk_lt x6; have := World.grownBy.size s28; omega
      have ne39 : b23 ≠ b31 := by have := blk_lt x27; omega
      have x27 := (k34.block _ (blk_lt x27)).trans x27
      refine W.sq (v := .slice (some ⟨b23, 0, none⟩) 0 0) rfl (r_assign rfl (by kernel_rfl)) (by kernel_rfl) rfl rfl ?_
      refine W.sq (v := .slice (some ⟨b31, 0, none⟩) 0 0) rfl (r_assign rfl (by kernel_rfl)) (by kernel_rfl) rfl rfl ?_
      refine W.sq (v := .bool false) rfl (r_assign rfl (by kernel_rfl)) (by kernel_rfl) rfl rfl ?_
      refine W.sch_end (l' := [.agg #[.int .i64 m, .slice A n c], .slice A2 n2 c2, .int .i64 a, .pointer (some ⟨b2, 0, none⟩), undef, undef, .slice (some ⟨b23, 0, none⟩) 0 0, .slice (some ⟨b31, 0, none⟩) 0 0, .bool false, .int .i64 (findL ps a), undef, undef, .agg #[.int .i64 m, .slice A n c], .int .i64 a, .int .i64 (findL ps a), .agg #[.int .i64 m, .slice A n c], .slice A2 n2 c2, .bool true, .bool false, .bool false, .int .i64 (findL ps a), .bool true, .bool true, .slice (some ⟨b23, 0, none⟩) 0 0, .slice (some ⟨b31, 0, none⟩) 0 0, undef, undef, undef, undef, undef, undef, undef, undef, undef, undef, undef, undef, undef]) (by kernel_rfl) ?_
      have x6 := SG.blk s36 x6 (by simp)
      have c40 := (SG.belowR c21 s36 (fun kq e => by cases e))
      refine h5 _ _ ?_
      refine wp_ret ?_
      try simp only [Exit.then]
      refine ret3 (v := .slice (some ⟨b23, 0, none⟩) 0 0) (x := .slice (some ⟨b31, 0, none⟩) 0 0) (y := .bool false) rfl (by kernel_rfl) (by kernel_rfl) (by kernel_rfl) ?_
      have ok41 : SegmentOfPipe_v2 m ps vs a = false := by unfold SegmentOfPipe_v2; rw [decide_eq_false (by omega), Bool.and_false]
      have ho42 := own_empty (base := w.heap.size) (size := 1) x27 lo29
      replace ho42 : World.ownsRow _ _ _ _ _ _ (intsV []) := ho42
      have nb43 : Nb b2 (.slice (some ⟨b23, 0, none⟩) 0 0) := nb_new (by have := ne30; omega)
      have nb44 : Nb b31 (.slice (some ⟨b23, 0, none⟩) 0 0) := nb_new (by have := ne39; omega)
      have ho45 := own_empty (base := w.heap.size) (size := 1) x35 lo37
      replace ho45 : World.ownsRow _ _ _ _ _ _ (intsV []) := ho45
      have nr46 : NbR (.slice (some ⟨b31, 0, none⟩) 0 0) (.slice (some ⟨b23, 0, none⟩) 0 0) := nbr_new nb44
      have nb47 : Nb b2 (.slice (some ⟨b31, 0, none⟩) 0 0) := nb_new (by have := ne38; omega)
      exact fin_rd2 (zs := []) (zs' := []) (own_rd ho42) (own_rd ho45) (by unfold SegmentOfPipe_v0; rw [if_neg (by rw [ok41]; simp)]) (by unfold SegmentOfPipe_v1; rw [if_neg (by rw [ok41]; simp)]) ok41.symm c40
    · refine W.sq (v := .bool false) rfl (r_lss (m := findL ps a) (n := 0) rfl (by kernel_rfl) (by kernel_rfl) (decide_eq_false q20)) (by kernel_rfl) rfl rfl ?_
      refine W.sq (v := .bool false) rfl (r_pick (b := false) rfl (by kernel_rfl) (by kernel_rfl)) (by kernel_rfl) rfl rfl ?_
      refine W.sch_end (l' := [.agg #[.int .i64 m, .slice A n c], .slice A2 n2 c2, .int .i64 a, .pointer (some ⟨b2, 0, none⟩), undef, undef, .slice none 0 0, .slice none 0 0, .bool false, .int .i64 (findL ps a), undef, undef, .agg #[.int .i64 m, .slice A n c], .int .i64 a, .int .i64 (findL ps a), .agg #[.int .i64 m, .slice A n c], .slice A2 n2 c2, .bool true, .bool false, .bool false, .int .i64 (findL ps a), .bool false, .bool false, undef, undef, undef, undef, undef, undef, undef, undef, undef, undef, undef, undef, undef, undef, undef]) (by kernel_rfl) ?_
      have x6 := SG.blk s18 x6 (by simp)
      have c48 := (SG.belowR c14 s18 (fun kq e => by cases e))
      refine h4 _ _ ?_
      refine wp_cond_false (by kernel_rfl) ?_
      refine wp_skip ?_
      refine h3 _ _ ?_
      refine wp_seq_k (fun K6 h6 => ?_)
      refine W.region_plain (row := none) [(0, false), (1, false), (2, true), (3, false), (4, true), (5, true), (6, false), (7, false), (8, false), (9, false), (10, false)] (by kernel_rfl) ?_
      have s49 := SG.self w17 none
      refine W.sq (v := .agg #[.int .i64 m, .slice A n c]) rfl (r_load2 rfl (by kernel_rfl) (by kernel_rfl) (by kernel_rfl) (sgS (blk_cell (j := 0) x6 (by kernel_rfl)) (by simp)) (sgS (blk_cell (j := 1) x6 (by kernel_rfl)) (by simp))) (by kernel_rfl) rfl rfl ?_
      refine W.sq (v := .slice A2 n2 c2) rfl (r_move rfl (by kernel_rfl)) (by kernel_rfl) rfl rfl ?_
      refine W.sn (fun b => .slice (some ⟨b, 0, none⟩) 0 0) #[] 3 s49 rfl (by kernel_rfl) rfl (fun _ => by kernel_rfl) (fun b50 w51 hb52 k53 x54 s55 => ?_)
      have lo56 : w.heap.size ≤ b50 := by have := ((SG.belowR c48 s49 (fun kq e => by cases e))).size; omega
      have ne57 : b2 ≠ b50 := by have := blk_lt x6; have := World.grownBy.size s49; omega
      refine W.sq (v := .int .i64 (findL ps a)) rfl (r_move rfl (by kernel_rfl)) (by kernel_rfl) rfl rfl ?_
      refine W.sn (fun b => .slice (some ⟨b, 0, none⟩) 1 1) #[.int .i64 (findL ps a)] 3 s55 rfl (by kernel_rfl) rfl (fun _ => by kernel_rfl) (fun b58 w59 hb60 k61 x62 s63 => ?_)
      have lo64 : w.heap.size ≤ b58 := by have := ((SG.belowR c48 s55 (fun kq e => by cases e))).size; omega
      have ne65 : b2 ≠ b58 := by have := blk_lt x6; have := World.grownBy.size s55; omega
      have ne66 : b50 ≠ b58 := by have := blk_lt x54; omega
      have x54 := (k61.block _ (blk_lt x54)).trans x54
      have ho67 := own_empty (base := w.heap.size) (size := 1) x54 lo56
      replace ho67 : World.ownsRow _ _ _ _ _ _ (intsV []) := ho67
      have nb68 : Nb b2 (.slice (some ⟨b50, 0, none⟩) 0 0) := nb_new (by have := ne57; omega)
      have nb69 : Nb b58 (.slice (some ⟨b50, 0, none⟩) 0 0) := nb_new (by have := ne66; omega)
      have rd71 := own_rd ho67
      have hl72 := rd_ints_len rd71
      have ho73 := own_blk (base := w.heap.size) (size := 1) (n := 1) x62 lo64 rfl (by omega)
      replace ho73 : World.ownsRow _ _ _ _ _ _ (intsV [findL ps a]) := ho73
      have nb74 : Nb b2 (.slice (some ⟨b58, 0, none⟩) 1 1) := nb_new (by have := ne65; omega)
      have rd76 := own_rd ho73
      have hl77 := rd_ints_len rd76
      refine W.sc (vs := [.agg #[.int .i64 m, .slice A n c], .slice A2 n2 c2, .bool false, .slice (some ⟨b50, 0, none⟩) 0 0, .slice (some ⟨b58, 0, none⟩) 1 1]) rfl rfl (by kernel_rfl) (by kernel_rfl) (by kernel_rfl) rfl (l4Spread_false m A n c ps A2 n2 c2 vs (9 + (findL ps a)) (some ⟨b50, 0, none⟩) 0 0 ([]) (some ⟨b58, 0, none⟩) 1 1 ([findL ps a]) _ (Rd.kept ha (SG.belowR c48 s63 (fun kq e => by cases e))) (Rd.kept hb (SG.belowR c48 s63 (fun kq e => by cases e))) (by omega) (by omega) hp (by omega) (by omega) rd71 (own_fm ho67) rd76 (own_fm ho73) (FndQ.startP _ (by omega))) ?_
      rintro e w93 ⟨A78, n79, c80, A81, n82, c83, rfl, rd84, fm85, rd86, fm87, b92⟩
      have s94 := SG.of_below s63 b92
      refine ⟨_, rfl, s94, ?_⟩
      have rd95 := Rd.kept rd71 b92
      have rd96 := Rd.kept rd76 b92
      have hl90 := rd_ints_len rd84
      have hl91 := rd_ints_len rd86
      have := nodesL_len (linked ps (openQ vs false)) m.toNat (9 + (findL ps a)) true
      have := idxL_len (linked ps (openQ vs false)) ps.length (9 + (findL ps a)) true
      refine W.sq (v := .tuple #[.slice A78 n79 c80, .slice A81 n82 c83]) rfl (r_move rfl (by kernel_rfl)) (by kernel_rfl) rfl rfl ?_
      refine W.sq (v := .slice A78 n79 c80) rfl (r_extract (vs := #[.slice A78 n79 c80, .slice A81 n82 c83]) rfl (by kernel_rfl) (by kernel_rfl)) (by kernel_rfl) rfl rfl ?_
      refine W.sq (v := .slice A81 n82 c83) rfl (r_extract (vs := #[.slice A78 n79 c80, .slice A81 n82 c83]) rfl (by kernel_rfl) (by kernel_rfl)) (by kernel_rfl) rfl rfl ?_
      refine W.sq (v := .slice A78 n79 c80) rfl (r_assign rfl (by kernel_rfl)) (by kernel_rfl) rfl rfl ?_
      refine W.sq (v := .slice A81 n82 c83) rfl (r_assign rfl (by kernel_rfl)) (by kernel_rfl) rfl rfl ?_
      refine W.sch_end (l' := [.agg #[.int .i64 m, .slice A n c], .slice A2 n2 c2, .int .i64 a, .pointer (some ⟨b2, 0, none⟩), undef, undef, .slice none 0 0, .slice none 0 0, .bool false, .int .i64 (findL ps a), .slice A78 n79 c80, .slice A81 n82 c83, .agg #[.int .i64 m, .slice A n c], .int .i64 a, .int .i64 (findL ps a), .agg #[.int .i64 m, .slice A n c], .slice A2 n2 c2, .bool true, .bool false, .bool false, .int .i64 (findL ps a), .bool false, .bool false, undef, undef, .tuple #[.slice A78 n79 c80, .slice A81 n82 c83], .agg #[.int .i64 m, .slice A n c], .slice A2 n2 c2, .slice (some ⟨b50, 0, none⟩) 0 0, .int .i64 (findL ps a), .slice (some ⟨b58, 0, none⟩) 1 1, .tuple #[.slice A78 n79 c80, .slice A81 n82 c83], .slice A78 n79 c80, .slice A81 n82 c83, undef, undef, undef, undef]) (by kernel_rfl) ?_
      have x6 := SG.blk s94 x6 (by simp)
      have c97 := (SG.belowR c48 s94 (fun kq e => by cases e))
      refine h6 _ _ ?_
      refine wp_seq_k (fun K7 h7 => ?_)
      refine W.region_plain (row := none) [(0, false), (1, false), (2, false), (3, true), (4, false), (5, false), (6, false)] (by kernel_rfl) ?_
      have s98 := SG.self w93 none
      refine W.sq (v := .slice A78 n79 c80) rfl (r_move rfl (by kernel_rfl)) (by kernel_rfl) rfl rfl ?_
      refine W.sq (v := .agg #[.int .i64 m, .slice A n c]) rfl (r_load2 rfl (by kernel_rfl) (by kernel_rfl) (by kernel_rfl) (sgS (blk_cell (j := 0) x6 (by kernel_rfl)) (by simp)) (sgS (blk_cell (j := 1) x6 (by kernel_rfl)) (by simp))) (by kernel_rfl) rfl rfl ?_
      refine W.sq (v := .slice A81 n82 c83) rfl (r_move rfl (by kernel_rfl)) (by kernel_rfl) rfl rfl ?_
      refine W.sc (vs := [.agg #[.int .i64 m, .slice A n c], .slice A81 n82 c83]) rfl rfl (by kernel_rfl) (by kernel_rfl) (by kernel_rfl) rfl (l4Ids_any m A n c ps A81 n82 c83 (idxL (linked ps (openQ vs false)) ps.length (9 + (findL ps a)) true) _ (Rd.kept ha (SG.belowR c97 s98 (fun kq e => by cases e))) (by omega) (Rd.kept rd86 (SG.below s98)) (by omega) (fun y hy => (mem_idxL.1 hy).1)) ?_
      rintro e w107 ⟨A99, n100, c101, rfl, rd102, fm103, b106⟩
      have s108 := SG.of_below s98 b106
      refine ⟨_, rfl, s108, ?_⟩
      have hl104 := rd_ints_len rd102
      refine W.sq (v := .slice A78 n79 c80) rfl (r_assign rfl (by kernel_rfl)) (by kernel_rfl) rfl rfl ?_
      refine W.sq (v := .slice A99 n100 c101) rfl (r_assign rfl (by kernel_rfl)) (by kernel_rfl) rfl rfl ?_
      refine W.sq (v := .bool true) rfl (r_assign rfl (by kernel_rfl)) (by kernel_rfl) rfl rfl ?_
      refine W.sch_end (l' := [.agg #[.int .i64 m, .slice A n c], .slice A2 n2 c2, .int .i64 a, .pointer (some ⟨b2, 0, none⟩), undef, undef, .slice A78 n79 c80, .slice A99 n100 c101, .bool true, .int .i64 (findL ps a), .slice A78 n79 c80, .slice A81 n82 c83, .agg #[.int .i64 m, .slice A n c], .int .i64 a, .int .i64 (findL ps a), .agg #[.int .i64 m, .slice A n c], .slice A2 n2 c2, .bool true, .bool false, .bool false, .int .i64 (findL ps a), .bool false, .bool false, undef, undef, .tuple #[.slice A78 n79 c80, .slice A81 n82 c83], .agg #[.int .i64 m, .slice A n c], .slice A2 n2 c2, .slice (some ⟨b50, 0, none⟩) 0 0, .int .i64 (findL ps a), .slice (some ⟨b58, 0, none⟩) 1 1, .tuple #[.slice A78 n79 c80, .slice A81 n82 c83], .slice A78 n79 c80, .slice A81 n82 c83, .slice A78 n79 c80, .agg #[.int .i64 m, .slice A n c], .slice A81 n82 c83, .slice A99 n100 c101]) (by kernel_rfl) ?_
      have x6 := SG.blk s108 x6 (by simp)
      have c109 := (SG.belowR c97 s108 (fun kq e => by cases e))
      have rd110 := Rd.kept rd95 (SG.below s108)
      have rd111 := Rd.kept rd96 (SG.below s108)
      have rd112 := Rd.kept rd84 (SG.below s108)
      have rd113 := Rd.kept rd86 (SG.below s108)
      refine h7 _ _ ?_
      refine wp_ret ?_
      try simp only [Exit.then]
      refine ret3 (v := .slice A78 n79 c80) (x := .slice A99 n100 c101) (y := .bool true) rfl (by kernel_rfl) (by kernel_rfl) (by kernel_rfl) ?_
      have ok114 : SegmentOfPipe_v2 m ps vs a = true := by unfold SegmentOfPipe_v2; rw [q19, decide_eq_true (by omega)]; rfl
      exact fin_rd2  rd112 rd102 (by unfold SegmentOfPipe_v0; rw [if_pos ok114]) (by unfold SegmentOfPipe_v1; rw [if_pos ok114]) ok114.symm c109
  · rw [q19]
    refine W.sq (v := .bool true) rfl (r_not (b := false) rfl (by kernel_rfl) rfl) (by kernel_rfl) rfl rfl ?_
    refine W.sq (v := .bool true) rfl (r_move rfl (by kernel_rfl)) (by kernel_rfl) rfl rfl ?_
    refine W.sk s18 rfl (by kernel_rfl) rfl rfl ?_
    refine W.sk s18 rfl (by kernel_rfl) rfl rfl ?_
    refine W.sq (v := .bool true) rfl (r_pick (b := true) rfl (by kernel_rfl) (by kernel_rfl)) (by kernel_rfl) rfl rfl ?_
    refine W.sch_end (l' := [.agg #[.int .i64 m, .slice A n c], .slice A2 n2 c2, .int .i64 a, .pointer (some ⟨b2, 0, none⟩), undef, undef, .slice none 0 0, .slice none 0 0, .bool false, .int .i64 (findL ps a), undef, undef, .agg #[.int .i64 m, .slice A n c], .int .i64 a, .int .i64 (findL ps a), .agg #[.int .i64 m, .slice A n c], .slice A2 n2 c2, .bool false, .bool true, .bool true, undef, undef, .bool true, undef, undef, undef, undef, undef, undef, undef, undef, undef, undef, undef, undef, undef, undef, undef]) (by kernel_rfl) ?_
    have x6 := SG.blk s18 x6 (by simp)
    have c115 := (SG.belowR c14 s18 (fun kq e => by cases e))
    refine h4 _ _ ?_
    refine wp_cond_true (by kernel_rfl) ?_
    refine wp_seq_k (fun K8 h8 => ?_)
    refine W.region_plain (row := none) [(0, true), (1, true), (2, false), (3, false), (4, false)] (by kernel_rfl) ?_
    have s116 := SG.self w17 none
    refine W.sn (fun b => .slice (some ⟨b, 0, none⟩) 0 0) #[] 3 s116 rfl (by kernel_rfl) rfl (fun _ => by kernel_rfl) (fun b117 w118 hb119 k120 x121 s122 => ?_)
    have lo123 : w.heap.size ≤ b117 := by have := ((SG.belowR c115 s116 (fun kq e => by cases e))).size; omega
    have ne124 : b2 ≠ b117 := by have := blk_lt x6; have := World.grownBy.size s116; omega
    refine W.sn (fun b => .slice (some ⟨b, 0, none⟩) 0 0) #[] 3 s122 rfl (by kernel_rfl) rfl (fun _ => by kernel_rfl) (fun b125 w126 hb127 k128 x129 s130 => ?_)
    have lo131 : w.heap.size ≤ b125 := by have := ((SG.belowR c115 s122 (fun kq e => by cases e))).size; omega
    have ne132 : b2 ≠ b125 := by have := blk_lt x6; have := World.grownBy.size s122; omega
    have ne133 : b117 ≠ b125 := by have := blk_lt x121; omega
    have x121 := (k128.block _ (blk_lt x121)).trans x121
    refine W.sq (v := .slice (some ⟨b117, 0, none⟩) 0 0) rfl (r_assign rfl (by kernel_rfl)) (by kernel_rfl) rfl rfl ?_
    refine W.sq (v := .slice (some ⟨b125, 0, none⟩) 0 0) rfl (r_assign rfl (by kernel_rfl)) (by kernel_rfl) rfl rfl ?_
    refine W.sq (v := .bool false) rfl (r_assign rfl (by kernel_rfl)) (by kernel_rfl) rfl rfl ?_
    refine W.sch_end (l' := [.agg #[.int .i64 m, .slice A n c], .slice A2 n2 c2, .int .i64 a, .pointer (some ⟨b2, 0, none⟩), undef, undef, .slice (some ⟨b117, 0, none⟩) 0 0, .slice (some ⟨b125, 0, none⟩) 0 0, .bool false, .int .i64 (findL ps a), undef, undef, .agg #[.int .i64 m, .slice A n c], .int .i64 a, .int .i64 (findL ps a), .agg #[.int .i64 m, .slice A n c], .slice A2 n2 c2, .bool false, .bool true, .bool true, undef, undef, .bool true, .slice (some ⟨b117, 0, none⟩) 0 0, .slice (some ⟨b125, 0, none⟩) 0 0, undef, undef, undef, undef, undef, undef, undef, undef, undef, undef, undef, undef, undef]) (by kernel_rfl) ?_
    have x6 := SG.blk s130 x6 (by simp)
    have c134 := (SG.belowR c115 s130 (fun kq e => by cases e))
    refine h8 _ _ ?_
    refine wp_ret ?_
    try simp only [Exit.then]
    refine ret3 (v := .slice (some ⟨b117, 0, none⟩) 0 0) (x := .slice (some ⟨b125, 0, none⟩) 0 0) (y := .bool false) rfl (by kernel_rfl) (by kernel_rfl) (by kernel_rfl) ?_
    have ok135 : SegmentOfPipe_v2 m ps vs a = false := by unfold SegmentOfPipe_v2; rw [q19]; rfl
    have ho136 := own_empty (base := w.heap.size) (size := 1) x121 lo123
    replace ho136 : World.ownsRow _ _ _ _ _ _ (intsV []) := ho136
    have nb137 : Nb b2 (.slice (some ⟨b117, 0, none⟩) 0 0) := nb_new (by have := ne124; omega)
    have nb138 : Nb b125 (.slice (some ⟨b117, 0, none⟩) 0 0) := nb_new (by have := ne133; omega)
    have ho139 := own_empty (base := w.heap.size) (size := 1) x129 lo131
    replace ho139 : World.ownsRow _ _ _ _ _ _ (intsV []) := ho139
    have nr140 : NbR (.slice (some ⟨b125, 0, none⟩) 0 0) (.slice (some ⟨b117, 0, none⟩) 0 0) := nbr_new nb138
    have nb141 : Nb b2 (.slice (some ⟨b125, 0, none⟩) 0 0) := nb_new (by have := ne132; omega)
    exact fin_rd2 (zs := []) (zs' := []) (own_rd ho136) (own_rd ho139) (by unfold SegmentOfPipe_v0; rw [if_neg (by rw [ok135]; simp)]) (by unfold SegmentOfPipe_v1; rw [if_neg (by rw [ok135]; simp)]) ok135.symm c134

set_option maxRecDepth 100000 in
set_option maxHeartbeats 1000000 in
theorem SegmentOfPipe_impl (m : Int) (A : Option Addr) (n c : Nat) (ps : List Pp) (A2 : Option Addr) (n2 c2 : Nat) (vs : List Vv) (a : Int) (w : World) (ha : Rd w 4 A n (pipesV ps)) (hb : Rd w 4 A2 n2 (valvesV vs)) (hn : n ≤ 1048576) (hn2 : n2 ≤ 1048576) (hfm : Fm A n c) (hfm2 : Fm A2 n2 c2) :
    Calls Try.prog 23 #[.agg #[.int .i64 m, .slice A n c], .slice A2 n2 c2, .int .i64 a] w fun e w' => ∃ A0 d0 A1 d1, e = .returned (.tuple #[.slice A0 (SegmentOfPipe_v0 m ps vs a).length d0, .slice A1 (SegmentOfPipe_v1 m ps vs a).length d1, .bool (SegmentOfPipe_v2 m ps vs a)]) ∧ w'.ownsRow w.heap.size 3 1 (.slice A0 (SegmentOfPipe_v0 m ps vs a).length d0) (SegmentOfPipe_v0 m ps vs a).length (intsV (SegmentOfPipe_v0 m ps vs a)) ∧ w'.ownsRow w.heap.size 3 1 (.slice A1 (SegmentOfPipe_v1 m ps vs a).length d1) (SegmentOfPipe_v1 m ps vs a).length (intsV (SegmentOfPipe_v1 m ps vs a)) ∧ NbR (.slice A0 (SegmentOfPipe_v0 m ps vs a).length d0) (.slice A1 (SegmentOfPipe_v1 m ps vs a).length d1) ∧ Below w.heap.size w w' := by
  have hl := rd_pipes_len ha
  have hl2 := rd_valves_len hb
  have hfl := findL_lt ps a
  go_enter Try.func23, Try.ntmps23
  refine wp_seq_k (fun K1 h1 => ?_)
  refine W.region_plain (row := none) [(0, true), (1, false), (2, false), (3, false)] (by kernel_rfl) ?_
  have s1 := SG.self w none
  refine W.sn (fun b => .pointer (some ⟨b, 0, none⟩)) #[.int .i64 m, .slice A n c] 31 s1 rfl (by kernel_rfl) rfl (fun _ => by kernel_rfl) (fun b2 w3 hb4 k5 x6 s7 => ?_)
  have lo8 : w.heap.size ≤ b2 := by have := ((SG.belowR (Below.refl _ _) s1 (fun kq e => by cases e))).size; omega
  refine W.sq (v := .slice none 0 0) rfl (r_assign rfl (by kernel_rfl)) (by kernel_rfl) rfl rfl ?_
  refine W.sq (v := .slice none 0 0) rfl (r_assign rfl (by kernel_rfl)) (by kernel_rfl) rfl rfl ?_
  refine W.sq (v := .bool false) rfl (r_assign rfl (by kernel_rfl)) (by kernel_rfl) rfl rfl ?_
  refine W.sch_end (l' := [.agg #[.int .i64 m, .slice A n c], .slice A2 n2 c2, .int .i64 a, .pointer (some ⟨b2, 0, none⟩), undef, undef, .slice none 0 0, .slice none 0 0, .bool false, undef, undef, undef, undef, undef, undef, undef, undef, undef, undef, undef, undef, undef, undef, undef, undef, undef, undef, undef, undef, undef, undef, undef, undef, undef, undef]) (by kernel_rfl) ?_
  have c9 := (SG.belowR (Below.refl _ _) s7 (fun kq e => by cases e))
  refine h1 _ _ ?_
  refine wp_seq_k (fun K2 h2 => ?_)
  refine wp_seq_k (fun K3 h3 => ?_)
  refine W.region_plain (row := none) [(0, false), (1, false), (2, true), (3, false), (4, false), (5, false), (6, false), (7, true), (8, false), (9, false)] (by kernel_rfl) ?_
  have s10 := SG.self w3 none
  refine W.sq (v := .agg #[.int .i64 m, .slice A n c]) rfl (r_load2 rfl (by kernel_rfl) (by kernel_rfl) (by kernel_rfl) (sgS (blk_cell (j := 0) x6 (by kernel_rfl)) (by simp)) (sgS (blk_cell (j := 1) x6 (by kernel_rfl)) (by simp))) (by kernel_rfl) rfl rfl ?_
  refine W.sq (v := .slice A2 n2 c2) rfl (r_move rfl (by kernel_rfl)) (by kernel_rfl) rfl rfl ?_
  refine W.sc (vs := [.agg #[.int .i64 m, .slice A n c], .slice A2 n2 c2]) rfl rfl (by kernel_rfl) (by kernel_rfl) (by kernel_rfl) rfl (IsValidValves_any m A n c ps A2 n2 c2 vs _ (Rd.kept ha (SG.belowR c9 s10 (fun kq e => by cases e))) (Rd.kept hb (SG.belowR c9 s10 (fun kq e => by cases e))) (by omega) (by omega) hfm2) ?_
  rintro e w12 ⟨rfl, b11⟩
  have s13 := SG.of_below s10 b11
  refine ⟨_, rfl, s13, ?_⟩
  rcases Bool.eq_false_or_eq_true (goodV m ps vs) with q14 | q14
  · rw [q14]
    have hv9 := goodV_of q14
    have hg := hv9.net
    have hgl := hg.lo
    have hgh := hg.hi
    have hp := hg.pipesIn
    have hlen10 := hg.len
    have hu := hv9.uniq
    have hvl := hv9.len
    refine W.sq (v := .bool false) rfl (r_not (b := true) rfl (by kernel_rfl) rfl) (by kernel_rfl) rfl rfl ?_
    refine W.sq (v := .bool false) rfl (r_move rfl (by kernel_rfl)) (by kernel_rfl) rfl rfl ?_
    refine W.sq (v := .agg #[.int .i64 m, .slice A n c]) rfl (r_load2 rfl (by kernel_rfl) (by kernel_rfl) (by kernel_rfl) (sgS (blk_cell (j := 0) x6 (by kernel_rfl)) (by simp)) (sgS (blk_cell (j := 1) x6 (by kernel_rfl)) (by simp))) (by kernel_rfl) rfl rfl ?_
    refine W.sq (v := .int .i64 a) rfl (r_move rfl (by kernel_rfl)) (by kernel_rfl) rfl rfl ?_
    refine W.sc (vs := [.agg #[.int .i64 m, .slice A n c], .int .i64 a]) rfl rfl (by kernel_rfl) (by kernel_rfl) (by kernel_rfl) rfl (pipeIndex_any m A n c ps a _ (Rd.kept ha (SG.belowR c9 s13 (fun kq e => by cases e))) (by omega)) ?_
    rintro e w16 ⟨rfl, b15⟩
    have s17 := SG.of_below s13 b15
    refine ⟨_, rfl, s17, ?_⟩
    by_cases q18 : (findL ps a : Int) < (0 : Int)
    · refine W.sq (v := .bool true) rfl (r_lss (m := findL ps a) (n := 0) rfl (by kernel_rfl) (by kernel_rfl) (decide_eq_true q18)) (by kernel_rfl) rfl rfl ?_
      refine W.sq (v := .bool true) rfl (r_pick (b := false) rfl (by kernel_rfl) (by kernel_rfl)) (by kernel_rfl) rfl rfl ?_
      refine W.sch_end (l' := [.agg #[.int .i64 m, .slice A n c], .slice A2 n2 c2, .int .i64 a, .pointer (some ⟨b2, 0, none⟩), undef, undef, .slice none 0 0, .slice none 0 0, .bool false, undef, undef, .agg #[.int .i64 m, .slice A n c], .slice A2 n2 c2, .bool true, .bool false, .bool false, .agg #[.int .i64 m, .slice A n c], .int .i64 a, .int .i64 (findL ps a), .bool true, .bool true, undef, undef, undef, undef, undef, undef, undef, undef, undef, undef, undef, undef, undef, undef]) (by kernel_rfl) ?_
      have x6 := SG.blk s17 x6 (by simp)
      have c19 := (SG.belowR c9 s17 (fun kq e => by cases e))
      refine h3 _ _ ?_
      refine wp_cond_true (by kernel_rfl) ?_
      refine wp_seq_k (fun K4 h4 => ?_)
      refine W.region_quiet [(0, false), (1, false), (2, false)] (by kernel_rfl) ?_
      refine W.sq (v := .slice none 0 0) rfl (r_assign rfl (by kernel_rfl)) (by kernel_rfl) rfl rfl ?_
      refine W.sq (v := .slice none 0 0) rfl (r_assign rfl (by kernel_rfl)) (by kernel_rfl) rfl rfl ?_
      refine W.sq (v := .bool false) rfl (r_assign rfl (by kernel_rfl)) (by kernel_rfl) rfl rfl ?_
      refine W.sch_end (l' := [.agg #[.int .i64 m, .slice A n c], .slice A2 n2 c2, .int .i64 a, .pointer (some ⟨b2, 0, none⟩), undef, undef, .slice none 0 0, .slice none 0 0, .bool false, undef, undef, .agg #[.int .i64 m, .slice A n c], .slice A2 n2 c2, .bool true, .bool false, .bool false, .agg #[.int .i64 m, .slice A n c], .int .i64 a, .int .i64 (findL ps a), .bool true, .bool true, undef, undef, undef, undef, undef, undef, undef, undef, undef, undef, undef, undef, undef, undef]) (by kernel_rfl) ?_
      refine h4 _ _ ?_
      refine wp_ret ?_
      try simp only [Exit.then]
      refine ret3 (v := .slice none 0 0) (x := .slice none 0 0) (y := .bool false) rfl (by kernel_rfl) (by kernel_rfl) (by kernel_rfl) ?_
      have ok20 : SegmentOfPipe_v2 m ps vs a = false := by unfold SegmentOfPipe_v2; rw [decide_eq_false (by omega), Bool.and_false]
      exact fin_ints2 (zs := []) (zs' := []) (World.ownsRow_nil _ _ _ _) (World.ownsRow_nil _ _ _ _) (by unfold SegmentOfPipe_v0; rw [if_neg (by rw [ok20]; simp)]) (by unfold SegmentOfPipe_v1; rw [if_neg (by rw [ok20]; simp)]) ok20.symm nbr_nil c19
    · refine W.sq (v := .bool false) rfl (r_lss (m := findL ps a) (n := 0) rfl (by kernel_rfl) (by kernel_rfl) (decide_eq_false q18)) (by kernel_rfl) rfl rfl ?_
      refine W.sq (v := .bool false) rfl (r_pick (b := false) rfl (by kernel_rfl) (by kernel_rfl)) (by kernel_rfl) rfl rfl ?_
      refine W.sch_end (l' := [.agg #[.int .i64 m, .slice A n c], .slice A2 n2 c2, .int .i64 a, .pointer (some ⟨b2, 0, none⟩), undef, undef, .slice none 0 0, .slice none 0 0, .bool false, undef, undef, .agg #[.int .i64 m, .slice A n c], .slice A2 n2 c2, .bool true, .bool false, .bool false, .agg #[.int .i64 m, .slice A n c], .int .i64 a, .int .i64 (findL ps a), .bool false, .bool false, undef, undef, undef, undef, undef, undef, undef, undef, undef, undef, undef, undef, undef, undef]) (by kernel_rfl) ?_
      have x6 := SG.blk s17 x6 (by simp)
      have c21 := (SG.belowR c9 s17 (fun kq e => by cases e))
      refine h3 _ _ ?_
      refine wp_cond_false (by kernel_rfl) ?_
      refine wp_skip ?_
      refine h2 _ _ ?_
      refine wp_seq_k (fun K5 h5 => ?_)
      refine W.region_sch (row := none) (Sch.of [(0, false), (1, false), (2, false), (3, false), (4, false), (5, true), (6, true), (7, true), (8, true), (9, false), (10, false), (11, false), (12, false), (13, false)]) (by kernel_rfl) (by kernel_rfl) (fun _ d _ _ _ h => by cases d <;> exact h) (by kernel_rfl) (fun w22 e23 s24 => ?_)
      refine W.sq (v := .agg #[.int .i64 m, .slice A n c]) rfl (r_load2 rfl (by kernel_rfl) (by kernel_rfl) (by kernel_rfl) (sgS (blk_cell (j := 0) x6 (by kernel_rfl)) (by simp)) (sgS (blk_cell (j := 1) x6 (by kernel_rfl)) (by simp))) (by kernel_rfl) rfl rfl ?_
      refine W.sq (v := .agg #[.int .i64 m, .slice A n c]) rfl (r_load2 rfl (by kernel_rfl) (by kernel_rfl) (by kernel_rfl) (sgS (blk_cell (j := 0) x6 (by kernel_rfl)) (by simp)) (sgS (blk_cell (j := 1) x6 (by kernel_rfl)) (by simp))) (by kernel_rfl) rfl rfl ?_
      refine W.sq (v := .slice A2 n2 c2) rfl (r_move rfl (by kernel_rfl)) (by kernel_rfl) rfl rfl ?_
      refine W.sq (v := .agg #[.int .i64 m, .slice A n c]) rfl (r_load2 rfl (by kernel_rfl) (by kernel_rfl) (by kernel_rfl) (sgS (blk_cell (j := 0) x6 (by kernel_rfl)) (by simp)) (sgS (blk_cell (j := 1) x6 (by kernel_rfl)) (by simp))) (by kernel_rfl) rfl rfl ?_
      refine W.sq (v := .int .i64 a) rfl (r_move rfl (by kernel_rfl)) (by kernel_rfl) rfl rfl ?_
      refine W.sc (vs := [.agg #[.int .i64 m, .slice A n c], .int .i64 a]) rfl rfl (by kernel_rfl) (by kernel_rfl) (by kernel_rfl) rfl (pipeIndex_any m A n c ps a _ (Rd.kept ha (SG.belowR c21 s24 (fun kq e => by cases e))) (by omega)) ?_
      rintro e w26 ⟨rfl, b25⟩
      have s27 := SG.of_below s24 b25
      refine ⟨_, rfl, s27, ?_⟩
      refine W.sc (vs := [.int .i64 (findL ps a)]) rfl rfl (by kernel_rfl) (by kernel_rfl) (by kernel_rfl) rfl (element_any (findL ps a) _ (by omega)) ?_
      rintro e w' ⟨rfl, rfl⟩
      refine ⟨_, rfl, s27, ?_⟩
      refine W.sc (vs := [.agg #[.int .i64 m, .slice A n c], .slice A2 n2 c2, .int .i64 (9 + (findL ps a))]) rfl rfl (by kernel_rfl) (by kernel_rfl) (by kernel_rfl) rfl (segmentOf_any m A n c ps A2 n2 c2 vs (9 + (findL ps a)) (9 + (findL ps a)).toNat _ (Rd.kept ha (SG.belowR c21 s27 (fun kq e => by cases e))) (Rd.kept hb (SG.belowR c21 s27 (fun kq e => by cases e))) (by omega) (by omega) hp (by omega) (by omega) (by omega) (by omega)) ?_
      rintro e w36 ⟨pb30, rfl, lo34, rd31, b35⟩
      have s37 := SG.of_below s27 b35
      refine ⟨_, rfl, s37, ?_⟩
      have hl32 := rd_bools_len rd31
      rw [wetL_len] at hl32
      have hl32 : (wetL (linked ps (openQ vs false)) (9 + (findL ps a))).length = 19 := wetL_len _ _
      have z49 := ((SG.belowR c21 s37 (fun kq e => by cases e))).size
      refine W.sc (vs := [.agg #[.int .i64 m, .slice A n c], .pointer (some ⟨pb30, 0, none⟩), .bool true]) rfl rfl (by kernel_rfl) (by kernel_rfl) (by kernel_rfl) rfl (nodesAndPipes_any m A n c ps pb30 true (linked ps (openQ vs false)) (9 + (findL ps a)) _ (Rd.kept ha (SG.belowR c21 s37 (fun kq e => by cases e))) (by omega) (by omega) (by omega) rd31) ?_
      rintro e w53 ⟨A38, n39, c40, A41, n42, c43, rfl, ho44, ho45, nr46, b52⟩
      have s54 := SG.of_below s37 b52
      refine ⟨_, rfl, s54, ?_⟩
      have rd55 := Rd.kept rd31 b52
      have ho47 := own_base (base' := w.heap.size) ho44 z49
      have hlr50 := rd_ints_len (own_rd ho47)
      have nb56 : Nb b2 (.slice A38 n39 c40) := nb_lo ho44 (Nat.lt_of_lt_of_le (blk_lt x6) (World.grownBy.size s37))
      have ho48 := own_base (base' := w.heap.size) ho45 z49
      have hlr51 := rd_ints_len (own_rd ho48)
      have nb57 : Nb b2 (.slice A41 n42 c43) := nb_lo ho45 (Nat.lt_of_lt_of_le (blk_lt x6) (World.grownBy.size s37))
      refine W.sq (v := .tuple #[.slice A38 n39 c40, .slice A41 n42 c43]) rfl (r_move rfl (by kernel_rfl)) (by kernel_rfl) rfl rfl ?_
      refine W.sq (v := .slice A38 n39 c40) rfl (r_extract (vs := #[.slice A38 n39 c40, .slice A41 n42 c43]) rfl (by kernel_rfl) (by kernel_rfl)) (by kernel_rfl) rfl rfl ?_
      refine W.sq (v := .slice A41 n42 c43) rfl (r_extract (vs := #[.slice A38 n39 c40, .slice A41 n42 c43]) rfl (by kernel_rfl) (by kernel_rfl)) (by kernel_rfl) rfl rfl ?_
      refine W.sq (v := .slice A38 n39 c40) rfl (r_assign rfl (by kernel_rfl)) (by kernel_rfl) rfl rfl ?_
      refine W.sq (v := .slice A41 n42 c43) rfl (r_assign rfl (by kernel_rfl)) (by kernel_rfl) rfl rfl ?_
      refine W.sch_end (l' := [.agg #[.int .i64 m, .slice A n c], .slice A2 n2 c2, .int .i64 a, .pointer (some ⟨b2, 0, none⟩), undef, undef, .slice none 0 0, .slice none 0 0, .bool false, .slice A38 n39 c40, .slice A41 n42 c43, .agg #[.int .i64 m, .slice A n c], .slice A2 n2 c2, .bool true, .bool false, .bool false, .agg #[.int .i64 m, .slice A n c], .int .i64 a, .int .i64 (findL ps a), .bool false, .bool false, .tuple #[.slice A38 n39 c40, .slice A41 n42 c43], .agg #[.int .i64 m, .slice A n c], .agg #[.int .i64 m, .slice A n c], .slice A2 n2 c2, .agg #[.int .i64 m, .slice A n c], .int .i64 a, .int .i64 (findL ps a), .int .i64 (9 + (findL ps a)), .pointer (some ⟨pb30, 0, none⟩), .tuple #[.slice A38 n39 c40, .slice A41 n42 c43], .slice A38 n39 c40, .slice A41 n42 c43, undef, undef]) (by kernel_rfl) ?_
      have x6 := SG.blk s54 x6 (by simp)
      have c58 := (SG.belowR c21 s54 (fun kq e => by cases e))
      refine h5 _ _ ?_
      refine wp_seq_k (fun K6 h6 => ?_)
      refine W.region_quiet [(0, false), (1, false), (2, false), (3, false), (4, false)] (by kernel_rfl) ?_
      refine W.sq (v := .slice A38 n39 c40) rfl (r_move rfl (by kernel_rfl)) (by kernel_rfl) rfl rfl ?_
      refine W.sq (v := .slice A41 n42 c43) rfl (r_move rfl (by kernel_rfl)) (by kernel_rfl) rfl rfl ?_
      refine W.sq (v := .slice A38 n39 c40) rfl (r_assign rfl (by kernel_rfl)) (by kernel_rfl) rfl rfl ?_
      refine W.sq (v := .slice A41 n42 c43) rfl (r_assign rfl (by kernel_rfl)) (by kernel_rfl) rfl rfl ?_
      refine W.sq (v := .bool true) rfl (r_assign rfl (by kernel_rfl)) (by kernel_rfl) rfl rfl ?_
      refine W.sch_end (l' := [.agg #[.int .i64 m, .slice A n c], .slice A2 n2 c2, .int .i64 a, .pointer (some ⟨b2, 0, none⟩), undef, undef, .slice A38 n39 c40, .slice A41 n42 c43, .bool true, .slice A38 n39 c40, .slice A41 n42 c43, .agg #[.int .i64 m, .slice A n c], .slice A2 n2 c2, .bool true, .bool false, .bool false, .agg #[.int .i64 m, .slice A n c], .int .i64 a, .int .i64 (findL ps a), .bool false, .bool false, .tuple #[.slice A38 n39 c40, .slice A41 n42 c43], .agg #[.int .i64 m, .slice A n c], .agg #[.int .i64 m, .slice A n c], .slice A2 n2 c2, .agg #[.int .i64 m, .slice A n c], .int .i64 a, .int .i64 (findL ps a), .int .i64 (9 + (findL ps a)), .pointer (some ⟨pb30, 0, none⟩), .tuple #[.slice A38 n39 c40, .slice A41 n42 c43], .slice A38 n39 c40, .slice A41 n42 c43, .slice A38 n39 c40, .slice A41 n42 c43]) (by kernel_rfl) ?_
      refine h6 _ _ ?_
      refine wp_ret ?_
      try simp only [Exit.then]
      refine ret3 (v := .slice A38 n39 c40) (x := .slice A41 n42 c43) (y := .bool true) rfl (by kernel_rfl) (by kernel_rfl) (by kernel_rfl) ?_
      have ok59 : SegmentOfPipe_v2 m ps vs a = true := by unfold SegmentOfPipe_v2; rw [q14, decide_eq_true (by omega)]; rfl
      exact fin_ints2  ho47 ho48 (by unfold SegmentOfPipe_v0; rw [if_pos ok59]) (by unfold SegmentOfPipe_v1; rw [if_pos ok59]) ok59.symm nr46 c58
  · rw [q14]
    refine W.sq (v := .bool true) rfl (r_not (b := false) rfl (by kernel_rfl) rfl) (by kernel_rfl) rfl rfl ?_
    refine W.sq (v := .bool true) rfl (r_move rfl (by kernel_rfl)) (by kernel_rfl) rfl rfl ?_
    refine W.sk s13 rfl (by kernel_rfl) rfl rfl ?_
    refine W.sk s13 rfl (by kernel_rfl) rfl rfl ?_
    refine W.sk s13 rfl (by kernel_rfl) rfl rfl ?_
    refine W.sk s13 rfl (by kernel_rfl) rfl rfl ?_
    refine W.sq (v := .bool true) rfl (r_pick (b := true) rfl (by kernel_rfl) (by kernel_rfl)) (by kernel_rfl) rfl rfl ?_
    refine W.sch_end (l' := [.agg #[.int .i64 m, .slice A n c], .slice A2 n2 c2, .int .i64 a, .pointer (some ⟨b2, 0, none⟩), undef, undef, .slice none 0 0, .slice none 0 0, .bool false, undef, undef, .agg #[.int .i64 m, .slice A n c], .slice A2 n2 c2, .bool false, .bool true, .bool true, undef, undef, undef, undef, .bool true, undef, undef, undef, undef, undef, undef, undef, undef, undef, undef, undef, undef, undef, undef]) (by kernel_rfl) ?_
    have x6 := SG.blk s13 x6 (by simp)
    have c60 := (SG.belowR c9 s13 (fun kq e => by cases e))
    refine h3 _ _ ?_
    refine wp_cond_true (by kernel_rfl) ?_
    refine wp_seq_k (fun K7 h7 => ?_)
    refine W.region_quiet [(0, false), (1, false), (2, false)] (by kernel_rfl) ?_
    refine W.sq (v := .slice none 0 0) rfl (r_assign rfl (by kernel_rfl)) (by kernel_rfl) rfl rfl ?_
    refine W.sq (v := .slice none 0 0) rfl (r_assign rfl (by kernel_rfl)) (by kernel_rfl) rfl rfl ?_
    refine W.sq (v := .bool false) rfl (r_assign rfl (by kernel_rfl)) (by kernel_rfl) rfl rfl ?_
    refine W.sch_end (l' := [.agg #[.int .i64 m, .slice A n c], .slice A2 n2 c2, .int .i64 a, .pointer (some ⟨b2, 0, none⟩), undef, undef, .slice none 0 0, .slice none 0 0, .bool false, undef, undef, .agg #[.int .i64 m, .slice A n c], .slice A2 n2 c2, .bool false, .bool true, .bool true, undef, undef, undef, undef, .bool true, undef, undef, undef, undef, undef, undef, undef, undef, undef, undef, undef, undef, undef, undef]) (by kernel_rfl) ?_
    refine h7 _ _ ?_
    refine wp_ret ?_
    try simp only [Exit.then]
    refine ret3 (v := .slice none 0 0) (x := .slice none 0 0) (y := .bool false) rfl (by kernel_rfl) (by kernel_rfl) (by kernel_rfl) ?_
    have ok61 : SegmentOfPipe_v2 m ps vs a = false := by unfold SegmentOfPipe_v2; rw [q14]; rfl
    exact fin_ints2 (zs := []) (zs' := []) (World.ownsRow_nil _ _ _ _) (World.ownsRow_nil _ _ _ _) (by unfold SegmentOfPipe_v0; rw [if_neg (by rw [ok61]; simp)]) (by unfold SegmentOfPipe_v1; rw [if_neg (by rw [ok61]; simp)]) ok61.symm nbr_nil c60

def SegmentOfNode_v2 (m : Int) (ps : List Pp) (vs : List Vv) (a : Int) : Bool := goodV m ps vs && inB a 1 m
noncomputable def SegmentOfNode_v0 (m : Int) (ps : List Pp) (vs : List Vv) (a : Int) : List Int := if SegmentOfNode_v2 m ps vs a = true then nodesL (linked ps (openQ vs false)) m.toNat a true else []
theorem SegmentOfNode_len (m : Int) (ps : List Pp) (vs : List Vv) (a : Int) : (SegmentOfNode_v0 m ps vs a).length ≤ 1048576 := by
  unfold SegmentOfNode_v0
  split
  · rename_i h
    have hg : goodV m ps vs = true := by unfold SegmentOfNode_v2 at h; rw [Bool.and_eq_true] at h; exact h.1
    have hv := goodV_of hg
    have h1 := hv.net.hi
    have h2 := hv.net.len
    skip
    have := nodesL_len (linked ps (openQ vs false)) m.toNat a true
    omega
  · simp
noncomputable def SegmentOfNode_v1 (m : Int) (ps : List Pp) (vs : List Vv) (a : Int) : List Int := if SegmentOfNode_v2 m ps vs a = true then idsAt ps (idxL (linked ps (openQ vs false)) ps.length a true) else []
theorem SegmentOfNode_len1 (m : Int) (ps : List Pp) (vs : List Vv) (a : Int) : (SegmentOfNode_v1 m ps vs a).length ≤ 1048576 := by
  unfold SegmentOfNode_v1
  split
  · rename_i h
    have hg : goodV m ps vs = true := by unfold SegmentOfNode_v2 at h; rw [Bool.and_eq_true] at h; exact h.1
    have hv := goodV_of hg
    have h1 := hv.net.hi
    have h2 := hv.net.len
    rw [idsAt_len]
    have := idxL_len (linked ps (openQ vs false)) ps.length a true
    omega
  · simp

set_option maxRecDepth 100000 in
set_option maxHeartbeats 1000000 in
theorem SegmentOfNode_spec (m : Int) (A : Option Addr) (n c : Nat) (ps : List Pp) (A2 : Option Addr) (n2 c2 : Nat) (vs : List Vv) (a : Int) (w : World) (ha : Rd w 4 A n (pipesV ps)) (hb : Rd w 4 A2 n2 (valvesV vs)) (hn : n ≤ 1048576) (hn2 : n2 ≤ 1048576) (hfm : Fm A n c) (hfm2 : Fm A2 n2 c2) :
    Calls Try.prog 29 #[.agg #[.int .i64 m, .slice A n c], .slice A2 n2 c2, .int .i64 a] w fun e w' => ∃ A0 d0 A1 d1, e = .returned (.tuple #[.slice A0 (SegmentOfNode_v0 m ps vs a).length d0, .slice A1 (SegmentOfNode_v1 m ps vs a).length d1, .bool (SegmentOfNode_v2 m ps vs a)]) ∧ Rd w' 1 A0 (SegmentOfNode_v0 m ps vs a).length (intsV (SegmentOfNode_v0 m ps vs a)) ∧ Rd w' 1 A1 (SegmentOfNode_v1 m ps vs a).length (intsV (SegmentOfNode_v1 m ps vs a)) ∧ Below w.heap.size w w' := by
  have hl := rd_pipes_len ha
  have hl2 := rd_valves_len hb
  have hfl := findL_lt ps a
  go_enter Try.func29, Try.ntmps29
  refine wp_seq_k (fun K1 h1 => ?_)
  refine W.region_plain (row := none) [(0, true), (1, false), (2, false), (3, false)] (by kernel_rfl) ?_
  have s1 := SG.self w none
  refine W.sn (fun b => .pointer (some ⟨b, 0, none⟩)) #[.int .i64 m, .slice A n c] 31 s1 rfl (by kernel_rfl) rfl (fun _ => by kernel_rfl) (fun b2 w3 hb4 k5 x6 s7 => ?_)
  have lo8 : w.heap.size ≤ b2 := by have := ((SG.belowR (Below.refl _ _) s1 (fun kq e => by cases e))).size; omega
  refine W.sq (v := .slice none 0 0) rfl (r_assign rfl (by kernel_rfl)) (by kernel_rfl) rfl rfl ?_
  refine W.sq (v := .slice none 0 0) rfl (r_assign rfl (by kernel_rfl)) (by kernel_rfl) rfl rfl ?_
  refine W.sq (v := .bool false) rfl (r_assign rfl (by kernel_rfl)) (by kernel_rfl) rfl rfl ?_
  refine W.sch_end (l' := [.agg #[.int .i64 m, .slice A n c], .slice A2 n2 c2, .int .i64 a, .pointer (some ⟨b2, 0, none⟩), undef, undef, .slice none 0 0, .slice none 0 0, .bool false, undef, undef, undef, undef, undef, undef, undef, undef, undef, undef, undef, undef, undef, undef, undef, undef, undef, undef, undef, undef, undef, undef, undef, undef, undef, undef, undef]) (by kernel_rfl) ?_
  have c9 := (SG.belowR (Below.refl _ _) s7 (fun kq e => by cases e))
  refine h1 _ _ ?_
  refine wp_seq_k (fun K2 h2 => ?_)
  refine wp_seq_k (fun K3 h3 => ?_)
  refine W.region_plain (row := none) [(0, false), (1, false), (2, true), (3, false), (4, false), (5, false), (6, false), (7, true), (8, false), (9, false)] (by kernel_rfl) ?_
  have s10 := SG.self w3 none
  refine W.sq (v := .agg #[.int .i64 m, .slice A n c]) rfl (r_load2 rfl (by kernel_rfl) (by kernel_rfl) (by kernel_rfl) (sgS (blk_cell (j := 0) x6 (by kernel_rfl)) (by simp)) (sgS (blk_cell (j := 1) x6 (by kernel_rfl)) (by simp))) (by kernel_rfl) rfl rfl ?_
  refine W.sq (v := .slice A2 n2 c2) rfl (r_move rfl (by kernel_rfl)) (by kernel_rfl) rfl rfl ?_
  refine W.sc (vs := [.agg #[.int .i64 m, .slice A n c], .slice A2 n2 c2]) rfl rfl (by kernel_rfl) (by kernel_rfl) (by kernel_rfl) rfl (l4Good_any m A n c ps A2 n2 c2 vs _ (Rd.kept ha (SG.belowR c9 s10 (fun kq e => by cases e))) (Rd.kept hb (SG.belowR c9 s10 (fun kq e => by cases e))) (by omega) (by omega)) ?_
  rintro e w12 ⟨rfl, b11⟩
  have s13 := SG.of_below s10 b11
  refine ⟨_, rfl, s13, ?_⟩
  rcases Bool.eq_false_or_eq_true (goodV m ps vs) with q14 | q14
  · rw [q14]
    have hv9 := goodV_of q14
    have hg := hv9.net
    have hgl := hg.lo
    have hgh := hg.hi
    have hp := hg.pipesIn
    have hlen10 := hg.len
    have hu := hv9.uniq
    have hvl := hv9.len
    refine W.sq (v := .bool false) rfl (r_not (b := true) rfl (by kernel_rfl) rfl) (by kernel_rfl) rfl rfl ?_
    refine W.sq (v := .bool false) rfl (r_move rfl (by kernel_rfl)) (by kernel_rfl) rfl rfl ?_
    refine W.sq (v := .agg #[.int .i64 m, .slice A n c]) rfl (r_load2 rfl (by kernel_rfl) (by kernel_rfl) (by kernel_rfl) (sgS (blk_cell (j := 0) x6 (by kernel_rfl)) (by simp)) (sgS (blk_cell (j := 1) x6 (by kernel_rfl)) (by simp))) (by kernel_rfl) rfl rfl ?_
    refine W.sq (v := .int .i64 a) rfl (r_move rfl (by kernel_rfl)) (by kernel_rfl) rfl rfl ?_
    refine W.sc (vs := [.agg #[.int .i64 m, .slice A n c], .int .i64 a]) rfl rfl (by kernel_rfl) (by kernel_rfl) (by kernel_rfl) rfl (l2Node_any m A n c ps a _ (Rd.kept ha (SG.belowR c9 s13 (fun kq e => by cases e))) (by omega)) ?_
    rintro e w16 ⟨rfl, b15⟩
    have s17 := SG.of_below s13 b15
    refine ⟨_, rfl, s17, ?_⟩
    rcases Bool.eq_false_or_eq_true (goodN m ps && inB a 1 m) with q18 | q18
    · rw [q18]
      have q19 : inB a 1 m = true := (Bool.and_eq_true_iff.1 q18).2
      have ha9 := inB_iff.1 q19
      refine W.sq (v := .bool false) rfl (r_not (b := true) rfl (by kernel_rfl) rfl) (by kernel_rfl) rfl rfl ?_
      refine W.sq (v := .bool false) rfl (r_pick (b := false) rfl (by kernel_rfl) (by kernel_rfl)) (by kernel_rfl) rfl rfl ?_
      refine W.sch_end (l' := [.agg #[.int .i64 m, .slice A n c], .slice A2 n2 c2, .int .i64 a, .pointer (some ⟨b2, 0, none⟩), undef, undef, .slice none 0 0, .slice none 0 0, .bool false, undef, undef, .agg #[.int .i64 m, .slice A n c], .slice A2 n2 c2, .bool true, .bool false, .bool false, .agg #[.int .i64 m, .slice A n c], .int .i64 a, .bool true, .bool false, .bool false, undef, undef, undef, undef, undef, undef, undef, undef, undef, undef, undef, undef, undef, undef, undef]) (by kernel_rfl) ?_
      have x6 := SG.blk s17 x6 (by simp)
      have c20 := (SG.belowR c9 s17 (fun kq e => by cases e))
      refine h3 _ _ ?_
      refine wp_cond_false (by kernel_rfl) ?_
      refine wp_skip ?_
      refine h2 _ _ ?_
      refine wp_seq_k (fun K4 h4 => ?_)
      refine W.region_plain (row := none) [(0, false), (1, false), (2, false), (3, true), (4, true), (5, true), (6, false), (7, false), (8, false), (9, false), (10, false)] (by kernel_rfl) ?_
      have s21 := SG.self w16 none
      refine W.sq (v := .agg #[.int .i64 m, .slice A n c]) rfl (r_load2 rfl (by kernel_rfl) (by kernel_rfl) (by kernel_rfl) (sgS (blk_cell (j := 0) x6 (by kernel_rfl)) (by simp)) (sgS (blk_cell (j := 1) x6 (by kernel_rfl)) (by simp))) (by kernel_rfl) rfl rfl ?_
      refine W.sq (v := .slice A2 n2 c2) rfl (r_move rfl (by kernel_rfl)) (by kernel_rfl) rfl rfl ?_
      refine W.sq (v := .int .i64 a) rfl (r_move rfl (by kernel_rfl)) (by kernel_rfl) rfl rfl ?_
      refine W.sn (fun b => .slice (some ⟨b, 0, none⟩) 1 1) #[.int .i64 a] 3 s21 rfl (by kernel_rfl) rfl (fun _ => by kernel_rfl) (fun b22 w23 hb24 k25 x26 s27 => ?_)
      have lo28 : w.heap.size ≤ b22 := by have := ((SG.belowR c20 s21 (fun kq e => by cases e))).size; omega
      have ne29 : b2 ≠ b22 := by have := blk_lt x6; have := World.grownBy.size s21; omega
      refine W.sn (fun b => .slice (some ⟨b, 0, none⟩) 0 0) #[] 3 s27 rfl (by kernel_rfl) rfl (fun _ => by kernel_rfl) (fun b30 w31 hb32 k33 x34 s35 => ?_)
      have lo36 : w.heap.size ≤ b30 := by have := ((SG.belowR c20 s27 (fun kq e => by cases e))).size; omega
      have ne37 : b2 ≠ b30 := by have := blk_lt x6; have := World.grownBy.size s27; omega
      have ne38 : b22 ≠ b30 := by have := blk_lt x26; omega
      have x26 := (k33.block _ (blk_lt x26)).trans x26
      have ho39 := own_blk (base := w.heap.size) (size := 1) (n := 1) x26 lo28 rfl (by omega)
      replace ho39 : World.ownsRow _ _ _ _ _ _ (intsV [a]) := ho39
      have nb40 : Nb b2 (.slice (some ⟨b22, 0, none⟩) 1 1) := nb_new (by have := ne29; omega)
      have nb41 : Nb b30 (.slice (some ⟨b22, 0, none⟩) 1 1) := nb_new (by have := ne38; omega)
      have rd43 := own_rd ho39
      have hl44 := rd_ints_len rd43
      have ho45 := own_empty (base := w.heap.size) (size := 1) x34 lo36
      replace ho45 : World.ownsRow _ _ _ _ _ _ (intsV []) := ho45
      have nb46 : Nb b2 (.slice (some ⟨b30, 0, none⟩) 0 0) := nb_new (by have := ne37; omega)
      have rd48 := own_rd ho45
      have hl49 := rd_ints_len rd48
      refine W.sc (vs := [.agg #[.int .i64 m, .slice A n c], .slice A2 n2 c2, .bool false, .slice (some ⟨b22, 0, none⟩) 1 1, .slice (some ⟨b30, 0, none⟩) 0 0]) rfl rfl (by kernel_rfl) (by kernel_rfl) (by kernel_rfl) rfl (l4Spread_false m A n c ps A2 n2 c2 vs (a) (some ⟨b22, 0, none⟩) 1 1 ([a]) (some ⟨b30, 0, none⟩) 0 0 ([]) _ (Rd.kept ha (SG.belowR c20 s35 (fun kq e => by cases e))) (Rd.kept hb (SG.belowR c20 s35 (fun kq e => by cases e))) (by omega) (by omega) hp (by omega) (by omega) rd43 (own_fm ho39) rd48 (own_fm ho45) (FndQ.startN _ (by omega))) ?_
      rintro e w65 ⟨A50, n51, c52, A53, n54, c55, rfl, rd56, fm57, rd58, fm59, b64⟩
      have s66 := SG.of_below s35 b64
      refine ⟨_, rfl, s66, ?_⟩
      have rd67 := Rd.kept rd43 b64
      have rd68 := Rd.kept rd48 b64
      have hl62 := rd_ints_len rd56
      have hl63 := rd_ints_len rd58
      have := nodesL_len (linked ps (openQ vs false)) m.toNat (a) true
      have := idxL_len (linked ps (openQ vs false)) ps.length (a) true
      refine W.sq (v := .tuple #[.slice A50 n51 c52, .slice A53 n54 c55]) rfl (r_move rfl (by kernel_rfl)) (by kernel_rfl) rfl rfl ?_
      refine W.sq (v := .slice A50 n51 c52) rfl (r_extract (vs := #[.slice A50 n51 c52, .slice A53 n54 c55]) rfl (by kernel_rfl) (by kernel_rfl)) (by kernel_rfl) rfl rfl ?_
      refine W.sq (v := .slice A53 n54 c55) rfl (r_extract (vs := #[.slice A50 n51 c52, .slice A53 n54 c55]) rfl (by kernel_rfl) (by kernel_rfl)) (by kernel_rfl) rfl rfl ?_
      refine W.sq (v := .slice A50 n51 c52) rfl (r_assign rfl (by kernel_rfl)) (by kernel_rfl) rfl rfl ?_
      refine W.sq (v := .slice A53 n54 c55) rfl (r_assign rfl (by kernel_rfl)) (by kernel_rfl) rfl rfl ?_
      refine W.sch_end (l' := [.agg #[.int .i64 m, .slice A n c], .slice A2 n2 c2, .int .i64 a, .pointer (some ⟨b2, 0, none⟩), undef, undef, .slice none 0 0, .slice none 0 0, .bool false, .slice A50 n51 c52, .slice A53 n54 c55, .agg #[.int .i64 m, .slice A n c], .slice A2 n2 c2, .bool true, .bool false, .bool false, .agg #[.int .i64 m, .slice A n c], .int .i64 a, .bool true, .bool false, .bool false, undef, undef, .tuple #[.slice A50 n51 c52, .slice A53 n54 c55], .agg #[.int .i64 m, .slice A n c], .slice A2 n2 c2, .int .i64 a, .slice (some ⟨b22, 0, none⟩) 1 1, .slice (some ⟨b30, 0, none⟩) 0 0, .tuple #[.slice A50 n51 c52, .slice A53 n54 c55], .slice A50 n51 c52, .slice A53 n54 c55, undef, undef, undef, undef]) (by kernel_rfl) ?_
      have x6 := SG.blk s66 x6 (by simp)
      have c69 := (SG.belowR c20 s66 (fun kq e => by cases e))
      refine h4 _ _ ?_
      refine wp_seq_k (fun K5 h5 => ?_)
      refine W.region_plain (row := none) [(0, false), (1, false), (2, false), (3, true), (4, false), (5, false), (6, false)] (by kernel_rfl) ?_
      have s70 := SG.self w65 none
      refine W.sq (v := .slice A50 n51 c52) rfl (r_move rfl (by kernel_rfl)) (by kernel_rfl) rfl rfl ?_
      refine W.sq (v := .agg #[.int .i64 m, .slice A n c]) rfl (r_load2 rfl (by kernel_rfl) (by kernel_rfl) (by kernel_rfl) (sgS (blk_cell (j := 0) x6 (by kernel_rfl)) (by simp)) (sgS (blk_cell (j := 1) x6 (by kernel_rfl)) (by simp))) (by kernel_rfl) rfl rfl ?_
      refine W.sq (v := .slice A53 n54 c55) rfl (r_move rfl (by kernel_rfl)) (by kernel_rfl) rfl rfl ?_
      refine W.sc (vs := [.agg #[.int .i64 m, .slice A n c], .slice A53 n54 c55]) rfl rfl (by kernel_rfl) (by kernel_rfl) (by kernel_rfl) rfl (l4Ids_any m A n c ps A53 n54 c55 (idxL (linked ps (openQ vs false)) ps.length (a) true) _ (Rd.kept ha (SG.belowR c69 s70 (fun kq e => by cases e))) (by omega) (Rd.kept rd58 (SG.below s70)) (by omega) (fun y hy => (mem_idxL.1 hy).1)) ?_
      rintro e w79 ⟨A71, n72, c73, rfl, rd74, fm75, b78⟩
      have s80 := SG.of_below s70 b78
      refine ⟨_, rfl, s80, ?_⟩
      have hl76 := rd_ints_len rd74
      refine W.sq (v := .slice A50 n51 c52) rfl (r_assign rfl (by kernel_rfl)) (by kernel_rfl) rfl rfl ?_
      refine W.sq (v := .slice A71 n72 c73) rfl (r_assign rfl (by kernel_rfl)) (by kernel_rfl) rfl rfl ?_
      refine W.sq (v := .bool true) rfl (r_assign rfl (by kernel_rfl)) (by kernel_rfl) rfl rfl ?_
      refine W.sch_end (l' := [.agg #[.int .i64 m, .slice A n c], .slice A2 n2 c2, .int .i64 a, .pointer (some ⟨b2, 0, none⟩), undef, undef, .slice A50 n51 c52, .slice A71 n72 c73, .bool true, .slice A50 n51 c52, .slice A53 n54 c55, .agg #[.int .i64 m, .slice A n c], .slice A2 n2 c2, .bool true, .bool false, .bool false, .agg #[.int .i64 m, .slice A n c], .int .i64 a, .bool true, .bool false, .bool false, undef, undef, .tuple #[.slice A50 n51 c52, .slice A53 n54 c55], .agg #[.int .i64 m, .slice A n c], .slice A2 n2 c2, .int .i64 a, .slice (some ⟨b22, 0, none⟩) 1 1, .slice (some ⟨b30, 0, none⟩) 0 0, .tuple #[.slice A50 n51 c52, .slice A53 n54 c55], .slice A50 n51 c52, .slice A53 n54 c55, .slice A50 n51 c52, .agg #[.int .i64 m, .slice A n c], .slice A53 n54 c55, .slice A71 n72 c73]) (by kernel_rfl) ?_
      have x6 := SG.blk s80 x6 (by simp)
      have c81 := (SG.belowR c69 s80 (fun kq e => by cases e))
      have rd82 := Rd.kept rd67 (SG.below s80)
      have rd83 := Rd.kept rd68 (SG.below s80)
      have rd84 := Rd.kept rd56 (SG.below s80)
      have rd85 := Rd.kept rd58 (SG.below s80)
      refine h5 _ _ ?_
      refine wp_ret ?_
      try simp only [Exit.then]
      refine ret3 (v := .slice A50 n51 c52) (x := .slice A71 n72 c73) (y := .bool true) rfl (by kernel_rfl) (by kernel_rfl) (by kernel_rfl) ?_
      have ok86 : SegmentOfNode_v2 m ps vs a = true := by unfold SegmentOfNode_v2; rw [q14, q19]; rfl
      exact fin_rd2  rd84 rd74 (by unfold SegmentOfNode_v0; rw [if_pos ok86]) (by unfold SegmentOfNode_v1; rw [if_pos ok86]) ok86.symm c81
    · rw [q18]
      have q87 : inB a 1 m = false := by have h9 := q18; rw [hv9.good, Bool.true_and] at h9; exact h9
      refine W.sq (v := .bool true) rfl (r_not (b := false) rfl (by kernel_rfl) rfl) (by kernel_rfl) rfl rfl ?_
      refine W.sq (v := .bool true) rfl (r_pick (b := false) rfl (by kernel_rfl) (by kernel_rfl)) (by kernel_rfl) rfl rfl ?_
      refine W.sch_end (l' := [.agg #[.int .i64 m, .slice A n c], .slice A2 n2 c2, .int .i64 a, .pointer (some ⟨b2, 0, none⟩), undef, undef, .slice none 0 0, .slice none 0 0, .bool false, undef, undef, .agg #[.int .i64 m, .slice A n c], .slice A2 n2 c2, .bool true, .bool false, .bool false, .agg #[.int .i64 m, .slice A n c], .int .i64 a, .bool false, .bool true, .bool true, undef, undef, undef, undef, undef, undef, undef, undef, undef, undef, undef, undef, undef, undef, undef]) (by kernel_rfl) ?_
      have x6 := SG.blk s17 x6 (by simp)
      have c88 := (SG.belowR c9 s17 (fun kq e => by cases e))
      refine h3 _ _ ?_
      refine wp_cond_true (by kernel_rfl) ?_
      refine wp_seq_k (fun K6 h6 => ?_)
      refine W.region_plain (row := none) [(0, true), (1, true), (2, false), (3, false), (4, false)] (by kernel_rfl) ?_
      have s89 := SG.self w16 none
      refine W.sn (fun b => .slice (some ⟨b, 0, none⟩) 0 0) #[] 3 s89 rfl (by kernel_rfl) rfl (fun _ => by kernel_rfl) (fun b90 w91 hb92 k93 x94 s95 => ?_)
      have lo96 : w.heap.size ≤ b90 := by have := ((SG.belowR c88 s89 (fun kq e => by cases e))).size; omega
      have ne97 : b2 ≠ b90 := by have := blk_lt x6; have := World.grownBy.size s89; omega
      refine W.sn (fun b => .slice (some ⟨b, 0, none⟩) 0 0) #[] 3 s95 rfl (by kernel_rfl) rfl (fun _ => by kernel_rfl) (fun b98 w99 hb100 k101 x102 s103 => ?_)
      have lo104 : w.heap.size ≤ b98 := by have := ((SG.belowR c88 s95 (fun kq e => by cases e))).size; omega
      have ne105 : b2 ≠ b98 := by have := blk_lt x6; have := World.grownBy.size s95; omega
      have ne106 : b90 ≠ b98 := by have := blk_lt x94; omega
      have x94 := (k101.block _ (blk_lt x94)).trans x94
      refine W.sq (v := .slice (some ⟨b90, 0, none⟩) 0 0) rfl (r_assign rfl (by kernel_rfl)) (by kernel_rfl) rfl rfl ?_
      refine W.sq (v := .slice (some ⟨b98, 0, none⟩) 0 0) rfl (r_assign rfl (by kernel_rfl)) (by kernel_rfl) rfl rfl ?_
      refine W.sq (v := .bool false) rfl (r_assign rfl (by kernel_rfl)) (by kernel_rfl) rfl rfl ?_
      refine W.sch_end (l' := [.agg #[.int .i64 m, .slice A n c], .slice A2 n2 c2, .int .i64 a, .pointer (some ⟨b2, 0, none⟩), undef, undef, .slice (some ⟨b90, 0, none⟩) 0 0, .slice (some ⟨b98, 0, none⟩) 0 0, .bool false, undef, undef, .agg #[.int .i64 m, .slice A n c], .slice A2 n2 c2, .bool true, .bool false, .bool false, .agg #[.int .i64 m, .slice A n c], .int .i64 a, .bool false, .bool true, .bool true, .slice (some ⟨b90, 0, none⟩) 0 0, .slice (some ⟨b98, 0, none⟩) 0 0, undef, undef, undef, undef, undef, undef, undef, undef, undef, undef, undef, undef, undef]) (by kernel_rfl) ?_
      have x6 := SG.blk s103 x6 (by simp)
      have c107 := (SG.belowR c88 s103 (fun kq e => by cases e))
      refine h6 _ _ ?_
      refine wp_ret ?_
      try simp only [Exit.then]
      refine ret3 (v := .slice (some ⟨b90, 0, none⟩) 0 0) (x := .slice (some ⟨b98, 0, none⟩) 0 0) (y := .bool false) rfl (by kernel_rfl) (by kernel_rfl) (by kernel_rfl) ?_
      have ok108 : SegmentOfNode_v2 m ps vs a = false := by unfold SegmentOfNode_v2; rw [q87, Bool.and_false]
      have ho109 := own_empty (base := w.heap.size) (size := 1) x94 lo96
      replace ho109 : World.ownsRow _ _ _ _ _ _ (intsV []) := ho109
      have nb110 : Nb b2 (.slice (some ⟨b90, 0, none⟩) 0 0) := nb_new (by have := ne97; omega)
      have nb111 : Nb b98 (.slice (some ⟨b90, 0, none⟩) 0 0) := nb_new (by have := ne106; omega)
      have ho112 := own_empty (base := w.heap.size) (size := 1) x102 lo104
      replace ho112 : World.ownsRow _ _ _ _ _ _ (intsV []) := ho112
      have nr113 : NbR (.slice (some ⟨b98, 0, none⟩) 0 0) (.slice (some ⟨b90, 0, none⟩) 0 0) := nbr_new nb111
      have nb114 : Nb b2 (.slice (some ⟨b98, 0, none⟩) 0 0) := nb_new (by have := ne105; omega)
      exact fin_rd2 (zs := []) (zs' := []) (own_rd ho109) (own_rd ho112) (by unfold SegmentOfNode_v0; rw [if_neg (by rw [ok108]; simp)]) (by unfold SegmentOfNode_v1; rw [if_neg (by rw [ok108]; simp)]) ok108.symm c107
  · rw [q14]
    refine W.sq (v := .bool true) rfl (r_not (b := false) rfl (by kernel_rfl) rfl) (by kernel_rfl) rfl rfl ?_
    refine W.sq (v := .bool true) rfl (r_move rfl (by kernel_rfl)) (by kernel_rfl) rfl rfl ?_
    refine W.sk s13 rfl (by kernel_rfl) rfl rfl ?_
    refine W.sk s13 rfl (by kernel_rfl) rfl rfl ?_
    refine W.sk s13 rfl (by kernel_rfl) rfl rfl ?_
    refine W.sk s13 rfl (by kernel_rfl) rfl rfl ?_
    refine W.sq (v := .bool true) rfl (r_pick (b := true) rfl (by kernel_rfl) (by kernel_rfl)) (by kernel_rfl) rfl rfl ?_
    refine W.sch_end (l' := [.agg #[.int .i64 m, .slice A n c], .slice A2 n2 c2, .int .i64 a, .pointer (some ⟨b2, 0, none⟩), undef, undef, .slice none 0 0, .slice none 0 0, .bool false, undef, undef, .agg #[.int .i64 m, .slice A n c], .slice A2 n2 c2, .bool false, .bool true, .bool true, undef, undef, undef, undef, .bool true, undef, undef, undef, undef, undef, undef, undef, undef, undef, undef, undef, undef, undef, undef, undef]) (by kernel_rfl) ?_
    have x6 := SG.blk s13 x6 (by simp)
    have c115 := (SG.belowR c9 s13 (fun kq e => by cases e))
    refine h3 _ _ ?_
    refine wp_cond_true (by kernel_rfl) ?_
    refine wp_seq_k (fun K7 h7 => ?_)
    refine W.region_plain (row := none) [(0, true), (1, true), (2, false), (3, false), (4, false)] (by kernel_rfl) ?_
    have s116 := SG.self w12 none
    refine W.sn (fun b => .slice (some ⟨b, 0, none⟩) 0 0) #[] 3 s116 rfl (by kernel_rfl) rfl (fun _ => by kernel_rfl) (fun b117 w118 hb119 k120 x121 s122 => ?_)
    have lo123 : w.heap.size ≤ b117 := by have := ((SG.belowR c115 s116 (fun kq e => by cases e))).size; omega
    have ne124 : b2 ≠ b117 := by have := blk_lt x6; have := World.grownBy.size s116; omega
    refine W.sn (fun b => .slice (some ⟨b, 0, none⟩) 0 0) #[] 3 s122 rfl (by kernel_rfl) rfl (fun _ => by kernel_rfl) (fun b125 w126 hb127 k128 x129 s130 => ?_)
    have lo131 : w.heap.size ≤ b125 := by have := ((SG.belowR c115 s122 (fun kq e => by cases e))).size; omega
    have ne132 : b2 ≠ b125 := by have := blk_lt x6; have := World.grownBy.size s122; omega
    have ne133 : b117 ≠ b125 := by have := blk_lt x121; omega
    have x121 := (k128.block _ (blk_lt x121)).trans x121
    refine W.sq (v := .slice (some ⟨b117, 0, none⟩) 0 0) rfl (r_assign rfl (by kernel_rfl)) (by kernel_rfl) rfl rfl ?_
    refine W.sq (v := .slice (some ⟨b125, 0, none⟩) 0 0) rfl (r_assign rfl (by kernel_rfl)) (by kernel_rfl) rfl rfl ?_
    refine W.sq (v := .bool false) rfl (r_assign rfl (by kernel_rfl)) (by kernel_rfl) rfl rfl ?_
    refine W.sch_end (l' := [.agg #[.int .i64 m, .slice A n c], .slice A2 n2 c2, .int .i64 a, .pointer (some ⟨b2, 0, none⟩), undef, undef, .slice (some ⟨b117, 0, none⟩) 0 0, .slice (some ⟨b125, 0, none⟩) 0 0, .bool false, undef, undef, .agg #[.int .i64 m, .slice A n c], .slice A2 n2 c2, .bool false, .bool true, .bool true, undef, undef, undef, undef, .bool true, .slice (some ⟨b117, 0, none⟩) 0 0, .slice (some ⟨b125, 0, none⟩) 0 0, undef, undef, undef, undef, undef, undef, undef, undef, undef, undef, undef, undef, undef]) (by kernel_rfl) ?_
    have x6 := SG.blk s130 x6 (by simp)
    have c134 := (SG.belowR c115 s130 (fun kq e => by cases e))
    refine h7 _ _ ?_
    refine wp_ret ?_
    try simp only [Exit.then]
    refine ret3 (v := .slice (some ⟨b117, 0, none⟩) 0 0) (x := .slice (some ⟨b125, 0, none⟩) 0 0) (y := .bool false) rfl (by kernel_rfl) (by kernel_rfl) (by kernel_rfl) ?_
    have ok135 : SegmentOfNode_v2 m ps vs a = false := by unfold SegmentOfNode_v2; rw [q14]; rfl
    have ho136 := own_empty (base := w.heap.size) (size := 1) x121 lo123
    replace ho136 : World.ownsRow _ _ _ _ _ _ (intsV []) := ho136
    have nb137 : Nb b2 (.slice (some ⟨b117, 0, none⟩) 0 0) := nb_new (by have := ne124; omega)
    have nb138 : Nb b125 (.slice (some ⟨b117, 0, none⟩) 0 0) := nb_new (by have := ne133; omega)
    have ho139 := own_empty (base := w.heap.size) (size := 1) x129 lo131
    replace ho139 : World.ownsRow _ _ _ _ _ _ (intsV []) := ho139
    have nr140 : NbR (.slice (some ⟨b125, 0, none⟩) 0 0) (.slice (some ⟨b117, 0, none⟩) 0 0) := nbr_new nb138
    have nb141 : Nb b2 (.slice (some ⟨b125, 0, none⟩) 0 0) := nb_new (by have := ne132; omega)
    exact fin_rd2 (zs := []) (zs' := []) (own_rd ho136) (own_rd ho139) (by unfold SegmentOfNode_v0; rw [if_neg (by rw [ok135]; simp)]) (by unfold SegmentOfNode_v1; rw [if_neg (by rw [ok135]; simp)]) ok135.symm c134

set_option maxRecDepth 100000 in
set_option maxHeartbeats 1000000 in
theorem SegmentOfNode_impl (m : Int) (A : Option Addr) (n c : Nat) (ps : List Pp) (A2 : Option Addr) (n2 c2 : Nat) (vs : List Vv) (a : Int) (w : World) (ha : Rd w 4 A n (pipesV ps)) (hb : Rd w 4 A2 n2 (valvesV vs)) (hn : n ≤ 1048576) (hn2 : n2 ≤ 1048576) (hfm : Fm A n c) (hfm2 : Fm A2 n2 c2) :
    Calls Try.prog 30 #[.agg #[.int .i64 m, .slice A n c], .slice A2 n2 c2, .int .i64 a] w fun e w' => ∃ A0 d0 A1 d1, e = .returned (.tuple #[.slice A0 (SegmentOfNode_v0 m ps vs a).length d0, .slice A1 (SegmentOfNode_v1 m ps vs a).length d1, .bool (SegmentOfNode_v2 m ps vs a)]) ∧ w'.ownsRow w.heap.size 3 1 (.slice A0 (SegmentOfNode_v0 m ps vs a).length d0) (SegmentOfNode_v0 m ps vs a).length (intsV (SegmentOfNode_v0 m ps vs a)) ∧ w'.ownsRow w.heap.size 3 1 (.slice A1 (SegmentOfNode_v1 m ps vs a).length d1) (SegmentOfNode_v1 m ps vs a).length (intsV (SegmentOfNode_v1 m ps vs a)) ∧ NbR (.slice A0 (SegmentOfNode_v0 m ps vs a).length d0) (.slice A1 (SegmentOfNode_v1 m ps vs a).length d1) ∧ Below w.heap.size w w' := by
  have hl := rd_pipes_len ha
  have hl2 := rd_valves_len hb
  have hfl := findL_lt ps a
  go_enter Try.func30, Try.ntmps30
  refine wp_seq_k (fun K1 h1 => ?_)
  refine W.region_plain (row := none) [(0, true), (1, false), (2, false), (3, false)] (by kernel_rfl) ?_
  have s1 := SG.self w none
  refine W.sn (fun b => .pointer (some ⟨b, 0, none⟩)) #[.int .i64 m, .slice A n c] 31 s1 rfl (by kernel_rfl) rfl (fun _ => by kernel_rfl) (fun b2 w3 hb4 k5 x6 s7 => ?_)
  have lo8 : w.heap.size ≤ b2 := by have := ((SG.belowR (Below.refl _ _) s1 (fun kq e => by cases e))).size; omega
  refine W.sq (v := .slice none 0 0) rfl (r_assign rfl (by kernel_rfl)) (by kernel_rfl) rfl rfl ?_
  refine W.sq (v := .slice none 0 0) rfl (r_assign rfl (by kernel_rfl)) (by kernel_rfl) rfl rfl ?_
  refine W.sq (v := .bool false) rfl (r_assign rfl (by kernel_rfl)) (by kernel_rfl) rfl rfl ?_
  refine W.sch_end (l' := [.agg #[.int .i64 m, .slice A n c], .slice A2 n2 c2, .int .i64 a, .pointer (some ⟨b2, 0, none⟩), undef, undef, .slice none 0 0, .slice none 0 0, .bool false, undef, undef, undef, undef, undef, undef, undef, undef, undef, undef, undef, undef, undef, undef, undef, undef, undef, undef, undef, undef, undef, undef, undef]) (by kernel_rfl) ?_
  have c9 := (SG.belowR (Below.refl _ _) s7 (fun kq e => by cases e))
  refine h1 _ _ ?_
  refine wp_seq_k (fun K2 h2 => ?_)
  refine wp_seq_k (fun K3 h3 => ?_)
  refine W.region_plain (row := none) [(0, false), (1, false), (2, true), (3, false), (4, false), (5, false), (6, false), (7, true), (8, false), (9, false)] (by kernel_rfl) ?_
  have s10 := SG.self w3 none
  refine W.sq (v := .agg #[.int .i64 m, .slice A n c]) rfl (r_load2 rfl (by kernel_rfl) (by kernel_rfl) (by kernel_rfl) (sgS (blk_cell (j := 0) x6 (by kernel_rfl)) (by simp)) (sgS (blk_cell (j := 1) x6 (by kernel_rfl)) (by simp))) (by kernel_rfl) rfl rfl ?_
  refine W.sq (v := .slice A2 n2 c2) rfl (r_move rfl (by kernel_rfl)) (by kernel_rfl) rfl rfl ?_
  refine W.sc (vs := [.agg #[.int .i64 m, .slice A n c], .slice A2 n2 c2]) rfl rfl (by kernel_rfl) (by kernel_rfl) (by kernel_rfl) rfl (IsValidValves_any m A n c ps A2 n2 c2 vs _ (Rd.kept ha (SG.belowR c9 s10 (fun kq e => by cases e))) (Rd.kept hb (SG.belowR c9 s10 (fun kq e => by cases e))) (by omega) (by omega) hfm2) ?_
  rintro e w12 ⟨rfl, b11⟩
  have s13 := SG.of_below s10 b11
  refine ⟨_, rfl, s13, ?_⟩
  rcases Bool.eq_false_or_eq_true (goodV m ps vs) with q14 | q14
  · rw [q14]
    have hv9 := goodV_of q14
    have hg := hv9.net
    have hgl := hg.lo
    have hgh := hg.hi
    have hp := hg.pipesIn
    have hlen10 := hg.len
    have hu := hv9.uniq
    have hvl := hv9.len
    refine W.sq (v := .bool false) rfl (r_not (b := true) rfl (by kernel_rfl) rfl) (by kernel_rfl) rfl rfl ?_
    refine W.sq (v := .bool false) rfl (r_move rfl (by kernel_rfl)) (by kernel_rfl) rfl rfl ?_
    refine W.sq (v := .agg #[.int .i64 m, .slice A n c]) rfl (r_load2 rfl (by kernel_rfl) (by kernel_rfl) (by kernel_rfl) (sgS (blk_cell (j := 0) x6 (by kernel_rfl)) (by simp)) (sgS (blk_cell (j := 1) x6 (by kernel_rfl)) (by simp))) (by kernel_rfl) rfl rfl ?_
    refine W.sq (v := .int .i64 a) rfl (r_move rfl (by kernel_rfl)) (by kernel_rfl) rfl rfl ?_
    refine W.sc (vs := [.agg #[.int .i64 m, .slice A n c], .int .i64 a]) rfl rfl (by kernel_rfl) (by kernel_rfl) (by kernel_rfl) rfl (has_any m A n c ps a _) ?_
    rintro e w16 ⟨rfl, b15⟩
    have s17 := SG.of_below s13 b15
    refine ⟨_, rfl, s17, ?_⟩
    rcases Bool.eq_false_or_eq_true (inB a 1 m) with q18 | q18
    · rw [q18]
      have ha9 := inB_iff.1 q18
      refine W.sq (v := .bool false) rfl (r_not (b := true) rfl (by kernel_rfl) rfl) (by kernel_rfl) rfl rfl ?_
      refine W.sq (v := .bool false) rfl (r_pick (b := false) rfl (by kernel_rfl) (by kernel_rfl)) (by kernel_rfl) rfl rfl ?_
      refine W.sch_end (l' := [.agg #[.int .i64 m, .slice A n c], .slice A2 n2 c2, .int .i64 a, .pointer (some ⟨b2, 0, none⟩), undef, undef, .slice none 0 0, .slice none 0 0, .bool false, undef, undef, .agg #[.int .i64 m, .slice A n c], .slice A2 n2 c2, .bool true, .bool false, .bool false, .agg #[.int .i64 m, .slice A n c], .int .i64 a, .bool true, .bool false, .bool false, undef, undef, undef, undef, undef, undef, undef, undef, undef, undef, undef]) (by kernel_rfl) ?_
      have x6 := SG.blk s17 x6 (by simp)
      have c19 := (SG.belowR c9 s17 (fun kq e => by cases e))
      refine h3 _ _ ?_
      refine wp_cond_false (by kernel_rfl) ?_
      refine wp_skip ?_
      refine h2 _ _ ?_
      refine wp_seq_k (fun K4 h4 => ?_)
      refine W.region_sch (row := none) (Sch.of [(0, false), (1, false), (2, false), (3, false), (4, true), (5, true), (6, false), (7, false), (8, false), (9, false), (10, false)]) (by kernel_rfl) (by kernel_rfl) (fun _ d _ _ _ h => by cases d <;> exact h) (by kernel_rfl) (fun w20 e21 s22 => ?_)
      refine W.sq (v := .agg #[.int .i64 m, .slice A n c]) rfl (r_load2 rfl (by kernel_rfl) (by kernel_rfl) (by kernel_rfl) (sgS (blk_cell (j := 0) x6 (by kernel_rfl)) (by simp)) (sgS (blk_cell (j := 1) x6 (by kernel_rfl)) (by simp))) (by kernel_rfl) rfl rfl ?_
      refine W.sq (v := .agg #[.int .i64 m, .slice A n c]) rfl (r_load2 rfl (by kernel_rfl) (by kernel_rfl) (by kernel_rfl) (sgS (blk_cell (j := 0) x6 (by kernel_rfl)) (by simp)) (sgS (blk_cell (j := 1) x6 (by kernel_rfl)) (by simp))) (by kernel_rfl) rfl rfl ?_
      refine W.sq (v := .slice A2 n2 c2) rfl (r_move rfl (by kernel_rfl)) (by kernel_rfl) rfl rfl ?_
      refine W.sq (v := .int .i64 a) rfl (r_move rfl (by kernel_rfl)) (by kernel_rfl) rfl rfl ?_
      refine W.sc (vs := [.agg #[.int .i64 m, .slice A n c], .slice A2 n2 c2, .int .i64 a]) rfl rfl (by kernel_rfl) (by kernel_rfl) (by kernel_rfl) rfl (segmentOf_any m A n c ps A2 n2 c2 vs (a) (a).toNat _ (Rd.kept ha (SG.belowR c19 s22 (fun kq e => by cases e))) (Rd.kept hb (SG.belowR c19 s22 (fun kq e => by cases e))) (by omega) (by omega) hp (by omega) (by omega) (by omega) (by omega)) ?_
      rintro e w29 ⟨pb23, rfl, lo27, rd24, b28⟩
      have s30 := SG.of_below s22 b28
      refine ⟨_, rfl, s30, ?_⟩
      have hl25 := rd_bools_len rd24
      rw [wetL_len] at hl25
      have hl25 : (wetL (linked ps (openQ vs false)) (a)).length = 19 := wetL_len _ _
      have z42 := ((SG.belowR c19 s30 (fun kq e => by cases e))).size
      refine W.sc (vs := [.agg #[.int .i64 m, .slice A n c], .pointer (some ⟨pb23, 0, none⟩), .bool true]) rfl rfl (by kernel_rfl) (by kernel_rfl) (by kernel_rfl) rfl (nodesAndPipes_any m A n c ps pb23 true (linked ps (openQ vs false)) (a) _ (Rd.kept ha (SG.belowR c19 s30 (fun kq e => by cases e))) (by omega) (by omega) (by omega) rd24) ?_
      rintro e w46 ⟨A31, n32, c33, A34, n35, c36, rfl, ho37, ho38, nr39, b45⟩
      have s47 := SG.of_below s30 b45
      refine ⟨_, rfl, s47, ?_⟩
      have rd48 := Rd.kept rd24 b45
      have ho40 := own_base (base' := w.heap.size) ho37 z42
      have hlr43 := rd_ints_len (own_rd ho40)
      have nb49 : Nb b2 (.slice A31 n32 c33) := nb_lo ho37 (Nat.lt_of_lt_of_le (blk_lt x6) (World.grownBy.size s30))
      have ho41 := own_base (base' := w.heap.size) ho38 z42
      have hlr44 := rd_ints_len (own_rd ho41)
      have nb50 : Nb b2 (.slice A34 n35 c36) := nb_lo ho38 (Nat.lt_of_lt_of_le (blk_lt x6) (World.grownBy.size s30))
      refine W.sq (v := .tuple #[.slice A31 n32 c33, .slice A34 n35 c36]) rfl (r_move rfl (by kernel_rfl)) (by kernel_rfl) rfl rfl ?_
      refine W.sq (v := .slice A31 n32 c33) rfl (r_extract (vs := #[.slice A31 n32 c33, .slice A34 n35 c36]) rfl (by kernel_rfl) (by kernel_rfl)) (by kernel_rfl) rfl rfl ?_
      refine W.sq (v := .slice A34 n35 c36) rfl (r_extract (vs := #[.slice A31 n32 c33, .slice A34 n35 c36]) rfl (by kernel_rfl) (by kernel_rfl)) (by kernel_rfl) rfl rfl ?_
      refine W.sq (v := .slice A31 n32 c33) rfl (r_assign rfl (by kernel_rfl)) (by kernel_rfl) rfl rfl ?_
      refine W.sq (v := .slice A34 n35 c36) rfl (r_assign rfl (by kernel_rfl)) (by kernel_rfl) rfl rfl ?_
      refine W.sch_end (l' := [.agg #[.int .i64 m, .slice A n c], .slice A2 n2 c2, .int .i64 a, .pointer (some ⟨b2, 0, none⟩), undef, undef, .slice none 0 0, .slice none 0 0, .bool false, .slice A31 n32 c33, .slice A34 n35 c36, .agg #[.int .i64 m, .slice A n c], .slice A2 n2 c2, .bool true, .bool false, .bool false, .agg #[.int .i64 m, .slice A n c], .int .i64 a, .bool true, .bool false, .bool false, .tuple #[.slice A31 n32 c33, .slice A34 n35 c36], .agg #[.int .i64 m, .slice A n c], .agg #[.int .i64 m, .slice A n c], .slice A2 n2 c2, .int .i64 a, .pointer (some ⟨pb23, 0, none⟩), .tuple #[.slice A31 n32 c33, .slice A34 n35 c36], .slice A31 n32 c33, .slice A34 n35 c36, undef, undef]) (by kernel_rfl) ?_
      have x6 := SG.blk s47 x6 (by simp)
      have c51 := (SG.belowR c19 s47 (fun kq e => by cases e))
      refine h4 _ _ ?_
      refine wp_seq_k (fun K5 h5 => ?_)
      refine W.region_quiet [(0, false), (1, false), (2, false), (3, false), (4, false)] (by kernel_rfl) ?_
      refine W.sq (v := .slice A31 n32 c33) rfl (r_move rfl (by kernel_rfl)) (by kernel_rfl) rfl rfl ?_
      refine W.sq (v := .slice A34 n35 c36) rfl (r_move rfl (by kernel_rfl)) (by kernel_rfl) rfl rfl ?_
      refine W.sq (v := .slice A31 n32 c33) rfl (r_assign rfl (by kernel_rfl)) (by kernel_rfl) rfl rfl ?_
      refine W.sq (v := .slice A34 n35 c36) rfl (r_assign rfl (by kernel_rfl)) (by kernel_rfl) rfl rfl ?_
      refine W.sq (v := .bool true) rfl (r_assign rfl (by kernel_rfl)) (by kernel_rfl) rfl rfl ?_
      refine W.sch_end (l' := [.agg #[.int .i64 m, .slice A n c], .slice A2 n2 c2, .int .i64 a, .pointer (some ⟨b2, 0, none⟩), undef, undef, .slice A31 n32 c33, .slice A34 n35 c36, .bool true, .slice A31 n32 c33, .slice A34 n35 c36, .agg #[.int .i64 m, .slice A n c], .slice A2 n2 c2, .bool true, .bool false, .bool false, .agg #[.int .i64 m, .slice A n c], .int .i64 a, .bool true, .bool false, .bool false, .tuple #[.slice A31 n32 c33, .slice A34 n35 c36], .agg #[.int .i64 m, .slice A n c], .agg #[.int .i64 m, .slice A n c], .slice A2 n2 c2, .int .i64 a, .pointer (some ⟨pb23, 0, none⟩), .tuple #[.slice A31 n32 c33, .slice A34 n35 c36], .slice A31 n32 c33, .slice A34 n35 c36, .slice A31 n32 c33, .slice A34 n35 c36]) (by kernel_rfl) ?_
      refine h5 _ _ ?_
      refine wp_ret ?_
      try simp only [Exit.then]
      refine ret3 (v := .slice A31 n32 c33) (x := .slice A34 n35 c36) (y := .bool true) rfl (by kernel_rfl) (by kernel_rfl) (by kernel_rfl) ?_
      have ok52 : SegmentOfNode_v2 m ps vs a = true := by unfold SegmentOfNode_v2; rw [q14, q18]; rfl
      exact fin_ints2  ho40 ho41 (by unfold SegmentOfNode_v0; rw [if_pos ok52]) (by unfold SegmentOfNode_v1; rw [if_pos ok52]) ok52.symm nr39 c51
    · rw [q18]
      refine W.sq (v := .bool true) rfl (r_not (b := false) rfl (by kernel_rfl) rfl) (by kernel_rfl) rfl rfl ?_
      refine W.sq (v := .bool true) rfl (r_pick (b := false) rfl (by kernel_rfl) (by kernel_rfl)) (by kernel_rfl) rfl rfl ?_
      refine W.sch_end (l' := [.agg #[.int .i64 m, .slice A n c], .slice A2 n2 c2, .int .i64 a, .pointer (some ⟨b2, 0, none⟩), undef, undef, .slice none 0 0, .slice none 0 0, .bool false, undef, undef, .agg #[.int .i64 m, .slice A n c], .slice A2 n2 c2, .bool true, .bool false, .bool false, .agg #[.int .i64 m, .slice A n c], .int .i64 a, .bool false, .bool true, .bool true, undef, undef, undef, undef, undef, undef, undef, undef, undef, undef, undef]) (by kernel_rfl) ?_
      have x6 := SG.blk s17 x6 (by simp)
      have c53 := (SG.belowR c9 s17 (fun kq e => by cases e))
      refine h3 _ _ ?_
      refine wp_cond_true (by kernel_rfl) ?_
      refine wp_seq_k (fun K6 h6 => ?_)
      refine W.region_quiet [(0, false), (1, false), (2, false)] (by kernel_rfl) ?_
      refine W.sq (v := .slice none 0 0) rfl (r_assign rfl (by kernel_rfl)) (by kernel_rfl) rfl rfl ?_
      refine W.sq (v := .slice none 0 0) rfl (r_assign rfl (by kernel_rfl)) (by kernel_rfl) rfl rfl ?_
      refine W.sq (v := .bool false) rfl (r_assign rfl (by kernel_rfl)) (by kernel_rfl) rfl rfl ?_
      refine W.sch_end (l' := [.agg #[.int .i64 m, .slice A n c], .slice A2 n2 c2, .int .i64 a, .pointer (some ⟨b2, 0, none⟩), undef, undef, .slice none 0 0, .slice none 0 0, .bool false, undef, undef, .agg #[.int .i64 m, .slice A n c], .slice A2 n2 c2, .bool true, .bool false, .bool false, .agg #[.int .i64 m, .slice A n c], .int .i64 a, .bool false, .bool true, .bool true, undef, undef, undef, undef, undef, undef, undef, undef, undef, undef, undef]) (by kernel_rfl) ?_
      refine h6 _ _ ?_
      refine wp_ret ?_
      try simp only [Exit.then]
      refine ret3 (v := .slice none 0 0) (x := .slice none 0 0) (y := .bool false) rfl (by kernel_rfl) (by kernel_rfl) (by kernel_rfl) ?_
      have ok54 : SegmentOfNode_v2 m ps vs a = false := by unfold SegmentOfNode_v2; rw [q18, Bool.and_false]
      exact fin_ints2 (zs := []) (zs' := []) (World.ownsRow_nil _ _ _ _) (World.ownsRow_nil _ _ _ _) (by unfold SegmentOfNode_v0; rw [if_neg (by rw [ok54]; simp)]) (by unfold SegmentOfNode_v1; rw [if_neg (by rw [ok54]; simp)]) ok54.symm nbr_nil c53
  · rw [q14]
    refine W.sq (v := .bool true) rfl (r_not (b := false) rfl (by kernel_rfl) rfl) (by kernel_rfl) rfl rfl ?_
    refine W.sq (v := .bool true) rfl (r_move rfl (by kernel_rfl)) (by kernel_rfl) rfl rfl ?_
    refine W.sk s13 rfl (by kernel_rfl) rfl rfl ?_
    refine W.sk s13 rfl (by kernel_rfl) rfl rfl ?_
    refine W.sk s13 rfl (by kernel_rfl) rfl rfl ?_
    refine W.sk s13 rfl (by kernel_rfl) rfl rfl ?_
    refine W.sq (v := .bool true) rfl (r_pick (b := true) rfl (by kernel_rfl) (by kernel_rfl)) (by kernel_rfl) rfl rfl ?_
    refine W.sch_end (l' := [.agg #[.int .i64 m, .slice A n c], .slice A2 n2 c2, .int .i64 a, .pointer (some ⟨b2, 0, none⟩), undef, undef, .slice none 0 0, .slice none 0 0, .bool false, undef, undef, .agg #[.int .i64 m, .slice A n c], .slice A2 n2 c2, .bool false, .bool true, .bool true, undef, undef, undef, undef, .bool true, undef, undef, undef, undef, undef, undef, undef, undef, undef, undef, undef]) (by kernel_rfl) ?_
    have x6 := SG.blk s13 x6 (by simp)
    have c55 := (SG.belowR c9 s13 (fun kq e => by cases e))
    refine h3 _ _ ?_
    refine wp_cond_true (by kernel_rfl) ?_
    refine wp_seq_k (fun K7 h7 => ?_)
    refine W.region_quiet [(0, false), (1, false), (2, false)] (by kernel_rfl) ?_
    refine W.sq (v := .slice none 0 0) rfl (r_assign rfl (by kernel_rfl)) (by kernel_rfl) rfl rfl ?_
    refine W.sq (v := .slice none 0 0) rfl (r_assign rfl (by kernel_rfl)) (by kernel_rfl) rfl rfl ?_
    refine W.sq (v := .bool false) rfl (r_assign rfl (by kernel_rfl)) (by kernel_rfl) rfl rfl ?_
    refine W.sch_end (l' := [.agg #[.int .i64 m, .slice A n c], .slice A2 n2 c2, .int .i64 a, .pointer (some ⟨b2, 0, none⟩), undef, undef, .slice none 0 0, .slice none 0 0, .bool false, undef, undef, .agg #[.int .i64 m, .slice A n c], .slice A2 n2 c2, .bool false, .bool true, .bool true, undef, undef, undef, undef, .bool true, undef, undef, undef, undef, undef, undef, undef, undef, undef, undef, undef]) (by kernel_rfl) ?_
    refine h7 _ _ ?_
    refine wp_ret ?_
    try simp only [Exit.then]
    refine ret3 (v := .slice none 0 0) (x := .slice none 0 0) (y := .bool false) rfl (by kernel_rfl) (by kernel_rfl) (by kernel_rfl) ?_
    have ok56 : SegmentOfNode_v2 m ps vs a = false := by unfold SegmentOfNode_v2; rw [q14]; rfl
    exact fin_ints2 (zs := []) (zs' := []) (World.ownsRow_nil _ _ _ _) (World.ownsRow_nil _ _ _ _) (by unfold SegmentOfNode_v0; rw [if_neg (by rw [ok56]; simp)]) (by unfold SegmentOfNode_v1; rw [if_neg (by rw [ok56]; simp)]) ok56.symm nbr_nil c55

def DryNodes_v1 (m : Int) (ps : List Pp) (vs : List Vv) (a : Int) : Bool := goodV m ps vs && inB a 1 m
noncomputable def DryNodes_v0 (m : Int) (ps : List Pp) (vs : List Vv) (a : Int) : List Int := if DryNodes_v1 m ps vs a = true then nodesL (linked ps (openQ vs true)) m.toNat a false else []
theorem DryNodes_len (m : Int) (ps : List Pp) (vs : List Vv) (a : Int) : (DryNodes_v0 m ps vs a).length ≤ 1048576 := by
  unfold DryNodes_v0
  split
  · rename_i h
    have hg : goodV m ps vs = true := by unfold DryNodes_v1 at h; rw [Bool.and_eq_true] at h; exact h.1
    have hv := goodV_of hg
    have h1 := hv.net.hi
    have h2 := hv.net.len
    skip
    have := nodesL_len (linked ps (openQ vs true)) m.toNat a false
    omega
  · simp

set_option maxRecDepth 100000 in
set_option maxHeartbeats 1000000 in
theorem DryNodes_spec (m : Int) (A : Option Addr) (n c : Nat) (ps : List Pp) (A2 : Option Addr) (n2 c2 : Nat) (vs : List Vv) (a : Int) (w : World) (ha : Rd w 4 A n (pipesV ps)) (hb : Rd w 4 A2 n2 (valvesV vs)) (hn : n ≤ 1048576) (hn2 : n2 ≤ 1048576) (hfm : Fm A n c) (hfm2 : Fm A2 n2 c2) :
    Calls Try.prog 38 #[.agg #[.int .i64 m, .slice A n c], .slice A2 n2 c2, .int .i64 a] w fun e w' => ∃ A' d, e = .returned (.tuple #[.slice A' (DryNodes_v0 m ps vs a).length d, .bool (DryNodes_v1 m ps vs a)]) ∧ Rd w' 1 A' (DryNodes_v0 m ps vs a).length (intsV (DryNodes_v0 m ps vs a)) ∧ Below w.heap.size w w' := by
  have hl := rd_pipes_len ha
  have hl2 := rd_valves_len hb
  go_enter Try.func38, Try.ntmps38
  refine wp_seq_k (fun K1 h1 => ?_)
  refine W.region_plain (row := none) [(0, true), (1, false), (2, false)] (by kernel_rfl) ?_
  have s1 := SG.self w none
  refine W.sn (fun b => .pointer (some ⟨b, 0, none⟩)) #[.int .i64 m, .slice A n c] 31 s1 rfl (by kernel_rfl) rfl (fun _ => by kernel_rfl) (fun b2 w3 hb4 k5 x6 s7 => ?_)
  have lo8 : w.heap.size ≤ b2 := by have := ((SG.belowR (Below.refl _ _) s1 (fun kq e => by cases e))).size; omega
  refine W.sq (v := .slice none 0 0) rfl (r_assign rfl (by kernel_rfl)) (by kernel_rfl) rfl rfl ?_
  refine W.sq (v := .bool false) rfl (r_assign rfl (by kernel_rfl)) (by kernel_rfl) rfl rfl ?_
  refine W.sch_end (l' := [.agg #[.int .i64 m, .slice A n c], .slice A2 n2 c2, .int .i64 a, .pointer (some ⟨b2, 0, none⟩), undef, undef, .slice none 0 0, .bool false, undef, undef, undef, undef, undef, undef, undef, undef, undef, undef, undef, undef, undef, undef, undef, undef, undef, undef, undef, undef, undef]) (by kernel_rfl) ?_
  have c9 := (SG.belowR (Below.refl _ _) s7 (fun kq e => by cases e))
  refine h1 _ _ ?_
  refine wp_seq_k (fun K2 h2 => ?_)
  refine wp_seq_k (fun K3 h3 => ?_)
  refine W.region_plain (row := none) [(0, false), (1, false), (2, true), (3, false), (4, false), (5, false), (6, false), (7, true), (8, false), (9, false)] (by kernel_rfl) ?_
  have s10 := SG.self w3 none
  refine W.sq (v := .agg #[.int .i64 m, .slice A n c]) rfl (r_load2 rfl (by kernel_rfl) (by kernel_rfl) (by kernel_rfl) (sgS (blk_cell (j := 0) x6 (by kernel_rfl)) (by simp)) (sgS (blk_cell (j := 1) x6 (by kernel_rfl)) (by simp))) (by kernel_rfl) rfl rfl ?_
  refine W.sq (v := .slice A2 n2 c2) rfl (r_move rfl (by kernel_rfl)) (by kernel_rfl) rfl rfl ?_
  refine W.sc (vs := [.agg #[.int .i64 m, .slice A n c], .slice A2 n2 c2]) rfl rfl (by kernel_rfl) (by kernel_rfl) (by kernel_rfl) rfl (l4Good_any m A n c ps A2 n2 c2 vs _ (Rd.kept ha (SG.belowR c9 s10 (fun kq e => by cases e))) (Rd.kept hb (SG.belowR c9 s10 (fun kq e => by cases e))) (by omega) (by omega)) ?_
  rintro e w12 ⟨rfl, b11⟩
  have s13 := SG.of_below s10 b11
  refine ⟨_, rfl, s13, ?_⟩
  rcases Bool.eq_false_or_eq_true (goodV m ps vs) with q14 | q14
  · rw [q14]
    have hv9 := goodV_of q14
    have hg := hv9.net
    have hgl := hg.lo
    have hgh := hg.hi
    have hp := hg.pipesIn
    have hlen10 := hg.len
    have hu := hv9.uniq
    have hvl := hv9.len
    refine W.sq (v := .bool false) rfl (r_not (b := true) rfl (by kernel_rfl) rfl) (by kernel_rfl) rfl rfl ?_
    refine W.sq (v := .bool false) rfl (r_move rfl (by kernel_rfl)) (by kernel_rfl) rfl rfl ?_
    refine W.sq (v := .agg #[.int .i64 m, .slice A n c]) rfl (r_load2 rfl (by kernel_rfl) (by kernel_rfl) (by kernel_rfl) (sgS (blk_cell (j := 0) x6 (by kernel_rfl)) (by simp)) (sgS (blk_cell (j := 1) x6 (by kernel_rfl)) (by simp))) (by kernel_rfl) rfl rfl ?_
    refine W.sq (v := .int .i64 a) rfl (r_move rfl (by kernel_rfl)) (by kernel_rfl) rfl rfl ?_
    refine W.sc (vs := [.agg #[.int .i64 m, .slice A n c], .int .i64 a]) rfl rfl (by kernel_rfl) (by kernel_rfl) (by kernel_rfl) rfl (l2Node_any m A n c ps a _ (Rd.kept ha (SG.belowR c9 s13 (fun kq e => by cases e))) (by omega)) ?_
    rintro e w16 ⟨rfl, b15⟩
    have s17 := SG.of_below s13 b15
    refine ⟨_, rfl, s17, ?_⟩
    rcases Bool.eq_false_or_eq_true (goodN m ps && inB a 1 m) with q18 | q18
    · rw [q18]
      have q19 : inB a 1 m = true := (Bool.and_eq_true_iff.1 q18).2
      have ha9 := inB_iff.1 q19
      refine W.sq (v := .bool false) rfl (r_not (b := true) rfl (by kernel_rfl) rfl) (by kernel_rfl) rfl rfl ?_
      refine W.sq (v := .bool false) rfl (r_pick (b := false) rfl (by kernel_rfl) (by kernel_rfl)) (by kernel_rfl) rfl rfl ?_
      refine W.sch_end (l' := [.agg #[.int .i64 m, .slice A n c], .slice A2 n2 c2, .int .i64 a, .pointer (some ⟨b2, 0, none⟩), undef, undef, .slice none 0 0, .bool false, undef, undef, .agg #[.int .i64 m, .slice A n c], .slice A2 n2 c2, .bool true, .bool false, .bool false, .agg #[.int .i64 m, .slice A n c], .int .i64 a, .bool true, .bool false, .bool false, undef, undef, undef, undef, undef, undef, undef, undef, undef]) (by kernel_rfl) ?_
      have x6 := SG.blk s17 x6 (by simp)
      have c20 := (SG.belowR c9 s17 (fun kq e => by cases e))
      refine h3 _ _ ?_
      refine wp_cond_false (by kernel_rfl) ?_
      refine wp_skip ?_
      refine h2 _ _ ?_
      refine wp_seq_k (fun K4 h4 => ?_)
      refine W.region_plain (row := none) [(0, false), (1, false), (2, false), (3, true), (4, false), (5, false), (6, false), (7, false), (8, false)] (by kernel_rfl) ?_
      have s21 := SG.self w16 none
      refine W.sq (v := .agg #[.int .i64 m, .slice A n c]) rfl (r_load2 rfl (by kernel_rfl) (by kernel_rfl) (by kernel_rfl) (sgS (blk_cell (j := 0) x6 (by kernel_rfl)) (by simp)) (sgS (blk_cell (j := 1) x6 (by kernel_rfl)) (by simp))) (by kernel_rfl) rfl rfl ?_
      refine W.sq (v := .slice A2 n2 c2) rfl (r_move rfl (by kernel_rfl)) (by kernel_rfl) rfl rfl ?_
      refine W.sq (v := .int .i64 a) rfl (r_move rfl (by kernel_rfl)) (by kernel_rfl) rfl rfl ?_
      refine W.sc (vs := [.agg #[.int .i64 m, .slice A n c], .slice A2 n2 c2, .int .i64 a]) rfl rfl (by kernel_rfl) (by kernel_rfl) (by kernel_rfl) rfl (l4Dry_any m A n c ps A2 n2 c2 vs a _ (Rd.kept ha (SG.belowR c20 s21 (fun kq e => by cases e))) (Rd.kept hb (SG.belowR c20 s21 (fun kq e => by cases e))) (by omega) (by omega) hp (by omega) (by omega) (by omega)) ?_
      rintro e w37 ⟨A22, n23, c24, A25, n26, c27, rfl, rd28, fm29, rd30, fm31, b36⟩
      have s38 := SG.of_below s21 b36
      refine ⟨_, rfl, s38, ?_⟩
      have hl34 := rd_ints_len rd28
      have hl35 := rd_ints_len rd30
      have := nodesL_len (linked ps (openQ vs true)) m.toNat a false
      have := idxL_len (linked ps (openQ vs true)) ps.length a false
      refine W.sq (v := .tuple #[.slice A22 n23 c24, .slice A25 n26 c27]) rfl (r_move rfl (by kernel_rfl)) (by kernel_rfl) rfl rfl ?_
      refine W.sq (v := .slice A22 n23 c24) rfl (r_extract (vs := #[.slice A22 n23 c24, .slice A25 n26 c27]) rfl (by kernel_rfl) (by kernel_rfl)) (by kernel_rfl) rfl rfl ?_
      refine W.sq (v := .slice A25 n26 c27) rfl (r_extract (vs := #[.slice A22 n23 c24, .slice A25 n26 c27]) rfl (by kernel_rfl) (by kernel_rfl)) (by kernel_rfl) rfl rfl ?_
      refine W.sq (v := .slice A22 n23 c24) rfl (r_assign rfl (by kernel_rfl)) (by kernel_rfl) rfl rfl ?_
      refine W.sq (v := .slice A25 n26 c27) rfl (r_assign rfl (by kernel_rfl)) (by kernel_rfl) rfl rfl ?_
      refine W.sch_end (l' := [.agg #[.int .i64 m, .slice A n c], .slice A2 n2 c2, .int .i64 a, .pointer (some ⟨b2, 0, none⟩), undef, undef, .slice none 0 0, .bool false, .slice A22 n23 c24, .slice A25 n26 c27, .agg #[.int .i64 m, .slice A n c], .slice A2 n2 c2, .bool true, .bool false, .bool false, .agg #[.int .i64 m, .slice A n c], .int .i64 a, .bool true, .bool false, .bool false, undef, .tuple #[.slice A22 n23 c24, .slice A25 n26 c27], .agg #[.int .i64 m, .slice A n c], .slice A2 n2 c2, .int .i64 a, .tuple #[.slice A22 n23 c24, .slice A25 n26 c27], .slice A22 n23 c24, .slice A25 n26 c27, undef]) (by kernel_rfl) ?_
      have x6 := SG.blk s38 x6 (by simp)
      have c39 := (SG.belowR c20 s38 (fun kq e => by cases e))
      refine h4 _ _ ?_
      refine wp_seq_k (fun K5 h5 => ?_)
      refine W.region_quiet [(0, false), (1, false), (2, false)] (by kernel_rfl) ?_
      refine W.sq (v := .slice A22 n23 c24) rfl (r_move rfl (by kernel_rfl)) (by kernel_rfl) rfl rfl ?_
      refine W.sq (v := .slice A22 n23 c24) rfl (r_assign rfl (by kernel_rfl)) (by kernel_rfl) rfl rfl ?_
      refine W.sq (v := .bool true) rfl (r_assign rfl (by kernel_rfl)) (by kernel_rfl) rfl rfl ?_
      refine W.sch_end (l' := [.agg #[.int .i64 m, .slice A n c], .slice A2 n2 c2, .int .i64 a, .pointer (some ⟨b2, 0, none⟩), undef, undef, .slice A22 n23 c24, .bool true, .slice A22 n23 c24, .slice A25 n26 c27, .agg #[.int .i64 m, .slice A n c], .slice A2 n2 c2, .bool true, .bool false, .bool false, .agg #[.int .i64 m, .slice A n c], .int .i64 a, .bool true, .bool false, .bool false, undef, .tuple #[.slice A22 n23 c24, .slice A25 n26 c27], .agg #[.int .i64 m, .slice A n c], .slice A2 n2 c2, .int .i64 a, .tuple #[.slice A22 n23 c24, .slice A25 n26 c27], .slice A22 n23 c24, .slice A25 n26 c27, .slice A22 n23 c24]) (by kernel_rfl) ?_
      refine h5 _ _ ?_
      refine wp_ret ?_
      try simp only [Exit.then]
      refine ret2 (v := .slice A22 n23 c24) (x := .bool true) rfl (by kernel_rfl) (by kernel_rfl) ?_
      have ok40 : DryNodes_v1 m ps vs a = true := by unfold DryNodes_v1; rw [q14, q19]; rfl
      exact fin_rd  rd28 (by unfold DryNodes_v0; rw [if_pos ok40]) ok40.symm c39
    · rw [q18]
      have q41 : inB a 1 m = false := by have h9 := q18; rw [hv9.good, Bool.true_and] at h9; exact h9
      refine W.sq (v := .bool true) rfl (r_not (b := false) rfl (by kernel_rfl) rfl) (by kernel_rfl) rfl rfl ?_
      refine W.sq (v := .bool true) rfl (r_pick (b := false) rfl (by kernel_rfl) (by kernel_rfl)) (by kernel_rfl) rfl rfl ?_
      refine W.sch_end (l' := [.agg #[.int .i64 m, .slice A n c], .slice A2 n2 c2, .int .i64 a, .pointer (some ⟨b2, 0, none⟩), undef, undef, .slice none 0 0, .bool false, undef, undef, .agg #[.int .i64 m, .slice A n c], .slice A2 n2 c2, .bool true, .bool false, .bool false, .agg #[.int .i64 m, .slice A n c], .int .i64 a, .bool false, .bool true, .bool true, undef, undef, undef, undef, undef, undef, undef, undef, undef]) (by kernel_rfl) ?_
      have x6 := SG.blk s17 x6 (by simp)
      have c42 := (SG.belowR c9 s17 (fun kq e => by cases e))
      refine h3 _ _ ?_
      refine wp_cond_true (by kernel_rfl) ?_
      refine wp_seq_k (fun K6 h6 => ?_)
      refine W.region_plain (row := none) [(0, true), (1, false), (2, false)] (by kernel_rfl) ?_
      have s43 := SG.self w16 none
      refine W.sn (fun b => .slice (some ⟨b, 0, none⟩) 0 0) #[] 3 s43 rfl (by kernel_rfl) rfl (fun _ => by kernel_rfl) (fun b44 w45 hb46 k47 x48 s49 => ?_)
      have lo50 : w.heap.size ≤ b44 := by have := ((SG.belowR c42 s43 (fun kq e => by cases e))).size; omega
      have ne51 : b2 ≠ b44 := by have := blk_lt x6; have := World.grownBy.size s43; omega
      refine W.sq (v := .slice (some ⟨b44, 0, none⟩) 0 0) rfl (r_assign rfl (by kernel_rfl)) (by kernel_rfl) rfl rfl ?_
      refine W.sq (v := .bool false) rfl (r_assign rfl (by kernel_rfl)) (by kernel_rfl) rfl rfl ?_
      refine W.sch_end (l' := [.agg #[.int .i64 m, .slice A n c], .slice A2 n2 c2, .int .i64 a, .pointer (some ⟨b2, 0, none⟩), undef, undef, .slice (some ⟨b44, 0, none⟩) 0 0, .bool false, undef, undef, .agg #[.int .i64 m, .slice A n c], .slice A2 n2 c2, .bool true, .bool false, .bool false, .agg #[.int .i64 m, .slice A n c], .int .i64 a, .bool false, .bool true, .bool true, .slice (some ⟨b44, 0, none⟩) 0 0, undef, undef, undef, undef, undef, undef, undef, undef]) (by kernel_rfl) ?_
      have x6 := SG.blk s49 x6 (by simp)
      have c52 := (SG.belowR c42 s49 (fun kq e => by cases e))
      refine h6 _ _ ?_
      refine wp_ret ?_
      try simp only [Exit.then]
      refine ret2 (v := .slice (some ⟨b44, 0, none⟩) 0 0) (x := .bool false) rfl (by kernel_rfl) (by kernel_rfl) ?_
      have ok53 : DryNodes_v1 m ps vs a = false := by unfold DryNodes_v1; rw [q41, Bool.and_false]
      have ho54 := own_empty (base := w.heap.size) (size := 1) x48 lo50
      replace ho54 : World.ownsRow _ _ _ _ _ _ (intsV []) := ho54
      have nb55 : Nb b2 (.slice (some ⟨b44, 0, none⟩) 0 0) := nb_new (by have := ne51; omega)
      exact fin_rd (zs := []) (own_rd ho54) (by unfold DryNodes_v0; rw [if_neg (by rw [ok53]; simp)]) ok53.symm c52
  · rw [q14]
    refine W.sq (v := .bool true) rfl (r_not (b := false) rfl (by kernel_rfl) rfl) (by kernel_rfl) rfl rfl ?_
    refine W.sq (v := .bool true) rfl (r_move rfl (by kernel_rfl)) (by kernel_rfl) rfl rfl ?_
    refine W.sk s13 rfl (by kernel_rfl) rfl rfl ?_
    refine W.sk s13 rfl (by kernel_rfl) rfl rfl ?_
    refine W.sk s13 rfl (by kernel_rfl) rfl rfl ?_
    refine W.sk s13 rfl (by kernel_rfl) rfl rfl ?_
    refine W.sq (v := .bool true) rfl (r_pick (b := true) rfl (by kernel_rfl) (by kernel_rfl)) (by kernel_rfl) rfl rfl ?_
    refine W.sch_end (l' := [.agg #[.int .i64 m, .slice A n c], .slice A2 n2 c2, .int .i64 a, .pointer (some ⟨b2, 0, none⟩), undef, undef, .slice none 0 0, .bool false, undef, undef, .agg #[.int .i64 m, .slice A n c], .slice A2 n2 c2, .bool false, .bool true, .bool true, undef, undef, undef, undef, .bool true, undef, undef, undef, undef, undef, undef, undef, undef, undef]) (by kernel_rfl) ?_
    have x6 := SG.blk s13 x6 (by simp)
    have c56 := (SG.belowR c9 s13 (fun kq e => by cases e))
    refine h3 _ _ ?_
    refine wp_cond_true (by kernel_rfl) ?_
    refine wp_seq_k (fun K7 h7 => ?_)
    refine W.region_plain (row := none) [(0, true), (1, false), (2, false)] (by kernel_rfl) ?_
    have s57 := SG.self w12 none
    refine W.sn (fun b => .slice (some ⟨b, 0, none⟩) 0 0) #[] 3 s57 rfl (by kernel_rfl) rfl (fun _ => by kernel_rfl) (fun b58 w59 hb60 k61 x62 s63 => ?_)
    have lo64 : w.heap.size ≤ b58 := by have := ((SG.belowR c56 s57 (fun kq e => by cases e))).size; omega
    have ne65 : b2 ≠ b58 := by have := blk_lt x6; have := World.grownBy.size s57; omega
    refine W.sq (v := .slice (some ⟨b58, 0, none⟩) 0 0) rfl (r_assign rfl (by kernel_rfl)) (by kernel_rfl) rfl rfl ?_
    refine W.sq (v := .bool false) rfl (r_assign rfl (by kernel_rfl)) (by kernel_rfl) rfl rfl ?_
    refine W.sch_end (l' := [.agg #[.int .i64 m, .slice A n c], .slice A2 n2 c2, .int .i64 a, .pointer (some ⟨b2, 0, none⟩), undef, undef, .slice (some ⟨b58, 0, none⟩) 0 0, .bool false, undef, undef, .agg #[.int .i64 m, .slice A n c], .slice A2 n2 c2, .bool false, .bool true, .bool true, undef, undef, undef, undef, .bool true, .slice (some ⟨b58, 0, none⟩) 0 0, undef, undef, undef, undef, undef, undef, undef, undef]) (by kernel_rfl) ?_
    have x6 := SG.blk s63 x6 (by simp)
    have c66 := (SG.belowR c56 s63 (fun kq e => by cases e))
    refine h7 _ _ ?_
    refine wp_ret ?_
    try simp only [Exit.then]
    refine ret2 (v := .slice (some ⟨b58, 0, none⟩) 0 0) (x := .bool false) rfl (by kernel_rfl) (by kernel_rfl) ?_
    have ok67 : DryNodes_v1 m ps vs a = false := by unfold DryNodes_v1; rw [q14]; rfl
    have ho68 := own_empty (base := w.heap.size) (size := 1) x62 lo64
    replace ho68 : World.ownsRow _ _ _ _ _ _ (intsV []) := ho68
    have nb69 : Nb b2 (.slice (some ⟨b58, 0, none⟩) 0 0) := nb_new (by have := ne65; omega)
    exact fin_rd (zs := []) (own_rd ho68) (by unfold DryNodes_v0; rw [if_neg (by rw [ok67]; simp)]) ok67.symm c66

set_option maxRecDepth 100000 in
set_option maxHeartbeats 1000000 in
theorem DryNodes_impl (m : Int) (A : Option Addr) (n c : Nat) (ps : List Pp) (A2 : Option Addr) (n2 c2 : Nat) (vs : List Vv) (a : Int) (w : World) (ha : Rd w 4 A n (pipesV ps)) (hb : Rd w 4 A2 n2 (valvesV vs)) (hn : n ≤ 1048576) (hn2 : n2 ≤ 1048576) (hfm : Fm A n c) (hfm2 : Fm A2 n2 c2) :
    Calls Try.prog 39 #[.agg #[.int .i64 m, .slice A n c], .slice A2 n2 c2, .int .i64 a] w fun e w' => ∃ A' d, e = .returned (.tuple #[.slice A' (DryNodes_v0 m ps vs a).length d, .bool (DryNodes_v1 m ps vs a)]) ∧ w'.ownsRow w.heap.size 3 1 (.slice A' (DryNodes_v0 m ps vs a).length d) (DryNodes_v0 m ps vs a).length (intsV (DryNodes_v0 m ps vs a)) ∧ Below w.heap.size w w' := by
  have hl := rd_pipes_len ha
  have hl2 := rd_valves_len hb
  go_enter Try.func39, Try.ntmps39
  refine wp_seq_k (fun K1 h1 => ?_)
  refine W.region_plain (row := none) [(0, true), (1, false), (2, false)] (by kernel_rfl) ?_
  have s1 := SG.self w none
  refine W.sn (fun b => .pointer (some ⟨b, 0, none⟩)) #[.int .i64 m, .slice A n c] 31 s1 rfl (by kernel_rfl) rfl (fun _ => by kernel_rfl) (fun b2 w3 hb4 k5 x6 s7 => ?_)
  have lo8 : w.heap.size ≤ b2 := by have := ((SG.belowR (Below.refl _ _) s1 (fun kq e => by cases e))).size; omega
  refine W.sq (v := .slice none 0 0) rfl (r_assign rfl (by kernel_rfl)) (by kernel_rfl) rfl rfl ?_
  refine W.sq (v := .bool false) rfl (r_assign rfl (by kernel_rfl)) (by kernel_rfl) rfl rfl ?_
  refine W.sch_end (l' := [.agg #[.int .i64 m, .slice A n c], .slice A2 n2 c2, .int .i64 a, .pointer (some ⟨b2, 0, none⟩), undef, undef, .slice none 0 0, .bool false, undef, undef, undef, undef, undef, undef, undef, undef, undef, undef, undef, undef, undef, undef, undef, undef, undef, undef, undef, undef, undef, undef]) (by kernel_rfl) ?_
  have c9 := (SG.belowR (Below.refl _ _) s7 (fun kq e => by cases e))
  refine h1 _ _ ?_
  refine wp_seq_k (fun K2 h2 => ?_)
  refine wp_seq_k (fun K3 h3 => ?_)
  refine W.region_plain (row := none) [(0, false), (1, false), (2, true), (3, false), (4, false), (5, false), (6, false), (7, true), (8, false), (9, false)] (by kernel_rfl) ?_
  have s10 := SG.self w3 none
  refine W.sq (v := .agg #[.int .i64 m, .slice A n c]) rfl (r_load2 rfl (by kernel_rfl) (by kernel_rfl) (by kernel_rfl) (sgS (blk_cell (j := 0) x6 (by kernel_rfl)) (by simp)) (sgS (blk_cell (j := 1) x6 (by kernel_rfl)) (by simp))) (by kernel_rfl) rfl rfl ?_
  refine W.sq (v := .slice A2 n2 c2) rfl (r_move rfl (by kernel_rfl)) (by kernel_rfl) rfl rfl ?_
  refine W.sc (vs := [.agg #[.int .i64 m, .slice A n c], .slice A2 n2 c2]) rfl rfl (by kernel_rfl) (by kernel_rfl) (by kernel_rfl) rfl (IsValidValves_any m A n c ps A2 n2 c2 vs _ (Rd.kept ha (SG.belowR c9 s10 (fun kq e => by cases e))) (Rd.kept hb (SG.belowR c9 s10 (fun kq e => by cases e))) (by omega) (by omega) hfm2) ?_
  rintro e w12 ⟨rfl, b11⟩
  have s13 := SG.of_below s10 b11
  refine ⟨_, rfl, s13, ?_⟩
  rcases Bool.eq_false_or_eq_true (goodV m ps vs) with q14 | q14
  · rw [q14]
    have hv9 := goodV_of q14
    have hg := hv9.net
    have hgl := hg.lo
    have hgh := hg.hi
    have hp := hg.pipesIn
    have hlen10 := hg.len
    have hu := hv9.uniq
    have hvl := hv9.len
    refine W.sq (v := .bool false) rfl (r_not (b := true) rfl (by kernel_rfl) rfl) (by kernel_rfl) rfl rfl ?_
    refine W.sq (v := .bool false) rfl (r_move rfl (by kernel_rfl)) (by kernel_rfl) rfl rfl ?_
    refine W.sq (v := .agg #[.int .i64 m, .slice A n c]) rfl (r_load2 rfl (by kernel_rfl) (by kernel_rfl) (by kernel_rfl) (sgS (blk_cell (j := 0) x6 (by kernel_rfl)) (by simp)) (sgS (blk_cell (j := 1) x6 (by kernel_rfl)) (by simp))) (by kernel_rfl) rfl rfl ?_
    refine W.sq (v := .int .i64 a) rfl (r_move rfl (by kernel_rfl)) (by kernel_rfl) rfl rfl ?_
    refine W.sc (vs := [.agg #[.int .i64 m, .slice A n c], .int .i64 a]) rfl rfl (by kernel_rfl) (by kernel_rfl) (by kernel_rfl) rfl (has_any m A n c ps a _) ?_
    rintro e w16 ⟨rfl, b15⟩
    have s17 := SG.of_below s13 b15
    refine ⟨_, rfl, s17, ?_⟩
    rcases Bool.eq_false_or_eq_true (inB a 1 m) with q18 | q18
    · rw [q18]
      have ha9 := inB_iff.1 q18
      refine W.sq (v := .bool false) rfl (r_not (b := true) rfl (by kernel_rfl) rfl) (by kernel_rfl) rfl rfl ?_
      refine W.sq (v := .bool false) rfl (r_pick (b := false) rfl (by kernel_rfl) (by kernel_rfl)) (by kernel_rfl) rfl rfl ?_
      refine W.sch_end (l' := [.agg #[.int .i64 m, .slice A n c], .slice A2 n2 c2, .int .i64 a, .pointer (some ⟨b2, 0, none⟩), undef, undef, .slice none 0 0, .bool false, undef, undef, .agg #[.int .i64 m, .slice A n c], .slice A2 n2 c2, .bool true, .bool false, .bool false, .agg #[.int .i64 m, .slice A n c], .int .i64 a, .bool true, .bool false, .bool false, undef, undef, undef, undef, undef, undef, undef, undef, undef, undef]) (by kernel_rfl) ?_
      have x6 := SG.blk s17 x6 (by simp)
      have c19 := (SG.belowR c9 s17 (fun kq e => by cases e))
      refine h3 _ _ ?_
      refine wp_cond_false (by kernel_rfl) ?_
      refine wp_skip ?_
      refine h2 _ _ ?_
      refine wp_seq_k (fun K4 h4 => ?_)
      refine W.region_sch (row := none) (Sch.of [(0, false), (1, false), (2, false), (3, false), (4, true), (5, true), (6, false), (7, false), (8, false), (9, false), (10, false)]) (by kernel_rfl) (by kernel_rfl) (fun _ d _ _ _ h => by cases d <;> exact h) (by kernel_rfl) (fun w20 e21 s22 => ?_)
      refine W.sq (v := .agg #[.int .i64 m, .slice A n c]) rfl (r_load2 rfl (by kernel_rfl) (by kernel_rfl) (by kernel_rfl) (sgS (blk_cell (j := 0) x6 (by kernel_rfl)) (by simp)) (sgS (blk_cell (j := 1) x6 (by kernel_rfl)) (by simp))) (by kernel_rfl) rfl rfl ?_
      refine W.sq (v := .agg #[.int .i64 m, .slice A n c]) rfl (r_load2 rfl (by kernel_rfl) (by kernel_rfl) (by kernel_rfl) (sgS (blk_cell (j := 0) x6 (by kernel_rfl)) (by simp)) (sgS (blk_cell (j := 1) x6 (by kernel_rfl)) (by simp))) (by kernel_rfl) rfl rfl ?_
      refine W.sq (v := .slice A2 n2 c2) rfl (r_move rfl (by kernel_rfl)) (by kernel_rfl) rfl rfl ?_
      refine W.sq (v := .int .i64 a) rfl (r_move rfl (by kernel_rfl)) (by kernel_rfl) rfl rfl ?_
      refine W.sc (vs := [.agg #[.int .i64 m, .slice A n c], .slice A2 n2 c2, .int .i64 a]) rfl rfl (by kernel_rfl) (by kernel_rfl) (by kernel_rfl) rfl (watered_any m A n c ps A2 n2 c2 vs (a) (a).toNat _ (Rd.kept ha (SG.belowR c19 s22 (fun kq e => by cases e))) (Rd.kept hb (SG.belowR c19 s22 (fun kq e => by cases e))) (by omega) (by omega) hp (by omega) (by omega) hu (by omega) (by omega)) ?_
      rintro e w29 ⟨pb23, rfl, lo27, rd24, b28⟩
      have s30 := SG.of_below s22 b28
      refine ⟨_, rfl, s30, ?_⟩
      have hl25 := rd_bools_len rd24
      rw [wetL_len] at hl25
      have hl25 : (wetL (linked ps (openQ vs true)) (a)).length = 19 := wetL_len _ _
      have z42 := ((SG.belowR c19 s30 (fun kq e => by cases e))).size
      refine W.sc (vs := [.agg #[.int .i64 m, .slice A n c], .pointer (some ⟨pb23, 0, none⟩), .bool false]) rfl rfl (by kernel_rfl) (by kernel_rfl) (by kernel_rfl) rfl (nodesAndPipes_any m A n c ps pb23 false (linked ps (openQ vs true)) (a) _ (Rd.kept ha (SG.belowR c19 s30 (fun kq e => by cases e))) (by omega) (by omega) (by omega) rd24) ?_
      rintro e w46 ⟨A31, n32, c33, A34, n35, c36, rfl, ho37, ho38, nr39, b45⟩
      have s47 := SG.of_below s30 b45
      refine ⟨_, rfl, s47, ?_⟩
      have rd48 := Rd.kept rd24 b45
      have ho40 := own_base (base' := w.heap.size) ho37 z42
      have hlr43 := rd_ints_len (own_rd ho40)
      have nb49 : Nb b2 (.slice A31 n32 c33) := nb_lo ho37 (Nat.lt_of_lt_of_le (blk_lt x6) (World.grownBy.size s30))
      have ho41 := own_base (base' := w.heap.size) ho38 z42
      have hlr44 := rd_ints_len (own_rd ho41)
      have nb50 : Nb b2 (.slice A34 n35 c36) := nb_lo ho38 (Nat.lt_of_lt_of_le (blk_lt x6) (World.grownBy.size s30))
      refine W.sq (v := .tuple #[.slice A31 n32 c33, .slice A34 n35 c36]) rfl (r_move rfl (by kernel_rfl)) (by kernel_rfl) rfl rfl ?_
      refine W.sq (v := .slice A31 n32 c33) rfl (r_extract (vs := #[.slice A31 n32 c33, .slice A34 n35 c36]) rfl (by kernel_rfl) (by kernel_rfl)) (by kernel_rfl) rfl rfl ?_
      refine W.sq (v := .slice A34 n35 c36) rfl (r_extract (vs := #[.slice A31 n32 c33, .slice A34 n35 c36]) rfl (by kernel_rfl) (by kernel_rfl)) (by kernel_rfl) rfl rfl ?_
      refine W.sq (v := .slice A31 n32 c33) rfl (r_assign rfl (by kernel_rfl)) (by kernel_rfl) rfl rfl ?_
      refine W.sq (v := .slice A34 n35 c36) rfl (r_assign rfl (by kernel_rfl)) (by kernel_rfl) rfl rfl ?_
      refine W.sch_end (l' := [.agg #[.int .i64 m, .slice A n c], .slice A2 n2 c2, .int .i64 a, .pointer (some ⟨b2, 0, none⟩), undef, undef, .slice none 0 0, .bool false, .slice A31 n32 c33, .slice A34 n35 c36, .agg #[.int .i64 m, .slice A n c], .slice A2 n2 c2, .bool true, .bool false, .bool false, .agg #[.int .i64 m, .slice A n c], .int .i64 a, .bool true, .bool false, .bool false, .tuple #[.slice A31 n32 c33, .slice A34 n35 c36], .agg #[.int .i64 m, .slice A n c], .agg #[.int .i64 m, .slice A n c], .slice A2 n2 c2, .int .i64 a, .pointer (some ⟨pb23, 0, none⟩), .tuple #[.slice A31 n32 c33, .slice A34 n35 c36], .slice A31 n32 c33, .slice A34 n35 c36, undef]) (by kernel_rfl) ?_
      have x6 := SG.blk s47 x6 (by simp)
      have c51 := (SG.belowR c19 s47 (fun kq e => by cases e))
      refine h4 _ _ ?_
      refine wp_seq_k (fun K5 h5 => ?_)
      refine W.region_quiet [(0, false), (1, false), (2, false)] (by kernel_rfl) ?_
      refine W.sq (v := .slice A31 n32 c33) rfl (r_move rfl (by kernel_rfl)) (by kernel_rfl) rfl rfl ?_
      refine W.sq (v := .slice A31 n32 c33) rfl (r_assign rfl (by kernel_rfl)) (by kernel_rfl) rfl rfl ?_
      refine W.sq (v := .bool true) rfl (r_assign rfl (by kernel_rfl)) (by kernel_rfl) rfl rfl ?_
      refine W.sch_end (l' := [.agg #[.int .i64 m, .slice A n c], .slice A2 n2 c2, .int .i64 a, .pointer (some ⟨b2, 0, none⟩), undef, undef, .slice A31 n32 c33, .bool true, .slice A31 n32 c33, .slice A34 n35 c36, .agg #[.int .i64 m, .slice A n c], .slice A2 n2 c2, .bool true, .bool false, .bool false, .agg #[.int .i64 m, .slice A n c], .int .i64 a, .bool true, .bool false, .bool false, .tuple #[.slice A31 n32 c33, .slice A34 n35 c36], .agg #[.int .i64 m, .slice A n c], .agg #[.int .i64 m, .slice A n c], .slice A2 n2 c2, .int .i64 a, .pointer (some ⟨pb23, 0, none⟩), .tuple #[.slice A31 n32 c33, .slice A34 n35 c36], .slice A31 n32 c33, .slice A34 n35 c36, .slice A31 n32 c33]) (by kernel_rfl) ?_
      refine h5 _ _ ?_
      refine wp_ret ?_
      try simp only [Exit.then]
      refine ret2 (v := .slice A31 n32 c33) (x := .bool true) rfl (by kernel_rfl) (by kernel_rfl) ?_
      have ok52 : DryNodes_v1 m ps vs a = true := by unfold DryNodes_v1; rw [q14, q18]; rfl
      exact fin_ints  ho40 (by unfold DryNodes_v0; rw [if_pos ok52]) ok52.symm c51
    · rw [q18]
      refine W.sq (v := .bool true) rfl (r_not (b := false) rfl (by kernel_rfl) rfl) (by kernel_rfl) rfl rfl ?_
      refine W.sq (v := .bool true) rfl (r_pick (b := false) rfl (by kernel_rfl) (by kernel_rfl)) (by kernel_rfl) rfl rfl ?_
      refine W.sch_end (l' := [.agg #[.int .i64 m, .slice A n c], .slice A2 n2 c2, .int .i64 a, .pointer (some ⟨b2, 0, none⟩), undef, undef, .slice none 0 0, .bool false, undef, undef, .agg #[.int .i64 m, .slice A n c], .slice A2 n2 c2, .bool true, .bool false, .bool false, .agg #[.int .i64 m, .slice A n c], .int .i64 a, .bool false, .bool true, .bool true, undef, undef, undef, undef, undef, undef, undef, undef, undef, undef]) (by kernel_rfl) ?_
      have x6 := SG.blk s17 x6 (by simp)
      have c53 := (SG.belowR c9 s17 (fun kq e => by cases e))
      refine h3 _ _ ?_
      refine wp_cond_true (by kernel_rfl) ?_
      refine wp_seq_k (fun K6 h6 => ?_)
      refine W.region_quiet [(0, false), (1, false)] (by kernel_rfl) ?_
      refine W.sq (v := .slice none 0 0) rfl (r_assign rfl (by kernel_rfl)) (by kernel_rfl) rfl rfl ?_
      refine W.sq (v := .bool false) rfl (r_assign rfl (by kernel_rfl)) (by kernel_rfl) rfl rfl ?_
      refine W.sch_end (l' := [.agg #[.int .i64 m, .slice A n c], .slice A2 n2 c2, .int .i64 a, .pointer (some ⟨b2, 0, none⟩), undef, undef, .slice none 0 0, .bool false, undef, undef, .agg #[.int .i64 m, .slice A n c], .slice A2 n2 c2, .bool true, .bool false, .bool false, .agg #[.int .i64 m, .slice A n c], .int .i64 a, .bool false, .bool true, .bool true, undef, undef, undef, undef, undef, undef, undef, undef, undef, undef]) (by kernel_rfl) ?_
      refine h6 _ _ ?_
      refine wp_ret ?_
      try simp only [Exit.then]
      refine ret2 (v := .slice none 0 0) (x := .bool false) rfl (by kernel_rfl) (by kernel_rfl) ?_
      have ok54 : DryNodes_v1 m ps vs a = false := by unfold DryNodes_v1; rw [q18, Bool.and_false]
      exact fin_ints (zs := []) (World.ownsRow_nil _ _ _ _) (by unfold DryNodes_v0; rw [if_neg (by rw [ok54]; simp)]) ok54.symm c53
  · rw [q14]
    refine W.sq (v := .bool true) rfl (r_not (b := false) rfl (by kernel_rfl) rfl) (by kernel_rfl) rfl rfl ?_
    refine W.sq (v := .bool true) rfl (r_move rfl (by kernel_rfl)) (by kernel_rfl) rfl rfl ?_
    refine W.sk s13 rfl (by kernel_rfl) rfl rfl ?_
    refine W.sk s13 rfl (by kernel_rfl) rfl rfl ?_
    refine W.sk s13 rfl (by kernel_rfl) rfl rfl ?_
    refine W.sk s13 rfl (by kernel_rfl) rfl rfl ?_
    refine W.sq (v := .bool true) rfl (r_pick (b := true) rfl (by kernel_rfl) (by kernel_rfl)) (by kernel_rfl) rfl rfl ?_
    refine W.sch_end (l' := [.agg #[.int .i64 m, .slice A n c], .slice A2 n2 c2, .int .i64 a, .pointer (some ⟨b2, 0, none⟩), undef, undef, .slice none 0 0, .bool false, undef, undef, .agg #[.int .i64 m, .slice A n c], .slice A2 n2 c2, .bool false, .bool true, .bool true, undef, undef, undef, undef, .bool true, undef, undef, undef, undef, undef, undef, undef, undef, undef, undef]) (by kernel_rfl) ?_
    have x6 := SG.blk s13 x6 (by simp)
    have c55 := (SG.belowR c9 s13 (fun kq e => by cases e))
    refine h3 _ _ ?_
    refine wp_cond_true (by kernel_rfl) ?_
    refine wp_seq_k (fun K7 h7 => ?_)
    refine W.region_quiet [(0, false), (1, false)] (by kernel_rfl) ?_
    refine W.sq (v := .slice none 0 0) rfl (r_assign rfl (by kernel_rfl)) (by kernel_rfl) rfl rfl ?_
    refine W.sq (v := .bool false) rfl (r_assign rfl (by kernel_rfl)) (by kernel_rfl) rfl rfl ?_
    refine W.sch_end (l' := [.agg #[.int .i64 m, .slice A n c], .slice A2 n2 c2, .int .i64 a, .pointer (some ⟨b2, 0, none⟩), undef, undef, .slice none 0 0, .bool false, undef, undef, .agg #[.int .i64 m, .slice A n c], .slice A2 n2 c2, .bool false, .bool true, .bool true, undef, undef, undef, undef, .bool true, undef, undef, undef, undef, undef, undef, undef, undef, undef, undef]) (by kernel_rfl) ?_
    refine h7 _ _ ?_
    refine wp_ret ?_
    try simp only [Exit.then]
    refine ret2 (v := .slice none 0 0) (x := .bool false) rfl (by kernel_rfl) (by kernel_rfl) ?_
    have ok56 : DryNodes_v1 m ps vs a = false := by unfold DryNodes_v1; rw [q14]; rfl
    exact fin_ints (zs := []) (World.ownsRow_nil _ _ _ _) (by unfold DryNodes_v0; rw [if_neg (by rw [ok56]; simp)]) ok56.symm c55

def DryPipes_v1 (m : Int) (ps : List Pp) (vs : List Vv) (a : Int) : Bool := goodV m ps vs && inB a 1 m
noncomputable def DryPipes_v0 (m : Int) (ps : List Pp) (vs : List Vv) (a : Int) : List Int := if DryPipes_v1 m ps vs a = true then idsAt ps (idxL (linked ps (openQ vs true)) ps.length a false) else []
theorem DryPipes_len (m : Int) (ps : List Pp) (vs : List Vv) (a : Int) : (DryPipes_v0 m ps vs a).length ≤ 1048576 := by
  unfold DryPipes_v0
  split
  · rename_i h
    have hg : goodV m ps vs = true := by unfold DryPipes_v1 at h; rw [Bool.and_eq_true] at h; exact h.1
    have hv := goodV_of hg
    have h1 := hv.net.hi
    have h2 := hv.net.len
    rw [idsAt_len]
    have := idxL_len (linked ps (openQ vs true)) ps.length a false
    omega
  · simp

set_option maxRecDepth 100000 in
set_option maxHeartbeats 1000000 in
theorem DryPipes_spec (m : Int) (A : Option Addr) (n c : Nat) (ps : List Pp) (A2 : Option Addr) (n2 c2 : Nat) (vs : List Vv) (a : Int) (w : World) (ha : Rd w 4 A n (pipesV ps)) (hb : Rd w 4 A2 n2 (valvesV vs)) (hn : n ≤ 1048576) (hn2 : n2 ≤ 1048576) (hfm : Fm A n c) (hfm2 : Fm A2 n2 c2) :
    Calls Try.prog 40 #[.agg #[.int .i64 m, .slice A n c], .slice A2 n2 c2, .int .i64 a] w fun e w' => ∃ A' d, e = .returned (.tuple #[.slice A' (DryPipes_v0 m ps vs a).length d, .bool (DryPipes_v1 m ps vs a)]) ∧ Rd w' 1 A' (DryPipes_v0 m ps vs a).length (intsV (DryPipes_v0 m ps vs a)) ∧ Below w.heap.size w w' := by
  have hl := rd_pipes_len ha
  have hl2 := rd_valves_len hb
  go_enter Try.func40, Try.ntmps40
  refine wp_seq_k (fun K1 h1 => ?_)
  refine W.region_plain (row := none) [(0, true), (1, false), (2, false)] (by kernel_rfl) ?_
  have s1 := SG.self w none
  refine W.sn (fun b => .pointer (some ⟨b, 0, none⟩)) #[.int .i64 m, .slice A n c] 31 s1 rfl (by kernel_rfl) rfl (fun _ => by kernel_rfl) (fun b2 w3 hb4 k5 x6 s7 => ?_)
  have lo8 : w.heap.size ≤ b2 := by have := ((SG.belowR (Below.refl _ _) s1 (fun kq e => by cases e))).size; omega
  refine W.sq (v := .slice none 0 0) rfl (r_assign rfl (by kernel_rfl)) (by kernel_rfl) rfl rfl ?_
  refine W.sq (v := .bool false) rfl (r_assign rfl (by kernel_rfl)) (by kernel_rfl) rfl rfl ?_
  refine W.sch_end (l' := [.agg #[.int .i64 m, .slice A n c], .slice A2 n2 c2, .int .i64 a, .pointer (some ⟨b2, 0, none⟩), undef, undef, .slice none 0 0, .bool false, undef, undef, undef, undef, undef, undef, undef, undef, undef, undef, undef, undef, undef, undef, undef, undef, undef, undef, undef, undef, undef, undef, undef]) (by kernel_rfl) ?_
  have c9 := (SG.belowR (Below.refl _ _) s7 (fun kq e => by cases e))
  refine h1 _ _ ?_
  refine wp_seq_k (fun K2 h2 => ?_)
  refine wp_seq_k (fun K3 h3 => ?_)
  refine W.region_plain (row := none) [(0, false), (1, false), (2, true), (3, false), (4, false), (5, false), (6, false), (7, true), (8, false), (9, false)] (by kernel_rfl) ?_
  have s10 := SG.self w3 none
  refine W.sq (v := .agg #[.int .i64 m, .slice A n c]) rfl (r_load2 rfl (by kernel_rfl) (by kernel_rfl) (by kernel_rfl) (sgS (blk_cell (j := 0) x6 (by kernel_rfl)) (by simp)) (sgS (blk_cell (j := 1) x6 (by kernel_rfl)) (by simp))) (by kernel_rfl) rfl rfl ?_
  refine W.sq (v := .slice A2 n2 c2) rfl (r_move rfl (by kernel_rfl)) (by kernel_rfl) rfl rfl ?_
  refine W.sc (vs := [.agg #[.int .i64 m, .slice A n c], .slice A2 n2 c2]) rfl rfl (by kernel_rfl) (by kernel_rfl) (by kernel_rfl) rfl (l4Good_any m A n c ps A2 n2 c2 vs _ (Rd.kept ha (SG.belowR c9 s10 (fun kq e => by cases e))) (Rd.kept hb (SG.belowR c9 s10 (fun kq e => by cases e))) (by omega) (by omega)) ?_
  rintro e w12 ⟨rfl, b11⟩
  have s13 := SG.of_below s10 b11
  refine ⟨_, rfl, s13, ?_⟩
  rcases Bool.eq_false_or_eq_true (goodV m ps vs) with q14 | q14
  · rw [q14]
    have hv9 := goodV_of q14
    have hg := hv9.net
    have hgl := hg.lo
    have hgh := hg.hi
    have hp := hg.pipesIn
    have hlen10 := hg.len
    have hu := hv9.uniq
    have hvl := hv9.len
    refine W.sq (v := .bool false) rfl (r_not (b := true) rfl (by kernel_rfl) rfl) (by kernel_rfl) rfl rfl ?_
    refine W.sq (v := .bool false) rfl (r_move rfl (by kernel_rfl)) (by kernel_rfl) rfl rfl ?_
    refine W.sq (v := .agg #[.int .i64 m, .slice A n c]) rfl (r_load2 rfl (by kernel_rfl) (by kernel_rfl) (by kernel_rfl) (sgS (blk_cell (j := 0) x6 (by kernel_rfl)) (by simp)) (sgS (blk_cell (j := 1) x6 (by kernel_rfl)) (by simp))) (by kernel_rfl) rfl rfl ?_
    refine W.sq (v := .int .i64 a) rfl (r_move rfl (by kernel_rfl)) (by kernel_rfl) rfl rfl ?_
    refine W.sc (vs := [.agg #[.int .i64 m, .slice A n c], .int .i64 a]) rfl rfl (by kernel_rfl) (by kernel_rfl) (by kernel_rfl) rfl (l2Node_any m A n c ps a _ (Rd.kept ha (SG.belowR c9 s13 (fun kq e => by cases e))) (by omega)) ?_
    rintro e w16 ⟨rfl, b15⟩
    have s17 := SG.of_below s13 b15
    refine ⟨_, rfl, s17, ?_⟩
    rcases Bool.eq_false_or_eq_true (goodN m ps && inB a 1 m) with q18 | q18
    · rw [q18]
      have q19 : inB a 1 m = true := (Bool.and_eq_true_iff.1 q18).2
      have ha9 := inB_iff.1 q19
      refine W.sq (v := .bool false) rfl (r_not (b := true) rfl (by kernel_rfl) rfl) (by kernel_rfl) rfl rfl ?_
      refine W.sq (v := .bool false) rfl (r_pick (b := false) rfl (by kernel_rfl) (by kernel_rfl)) (by kernel_rfl) rfl rfl ?_
      refine W.sch_end (l' := [.agg #[.int .i64 m, .slice A n c], .slice A2 n2 c2, .int .i64 a, .pointer (some ⟨b2, 0, none⟩), undef, undef, .slice none 0 0, .bool false, undef, undef, .agg #[.int .i64 m, .slice A n c], .slice A2 n2 c2, .bool true, .bool false, .bool false, .agg #[.int .i64 m, .slice A n c], .int .i64 a, .bool true, .bool false, .bool false, undef, undef, undef, undef, undef, undef, undef, undef, undef, undef, undef]) (by kernel_rfl) ?_
      have x6 := SG.blk s17 x6 (by simp)
      have c20 := (SG.belowR c9 s17 (fun kq e => by cases e))
      refine h3 _ _ ?_
      refine wp_cond_false (by kernel_rfl) ?_
      refine wp_skip ?_
      refine h2 _ _ ?_
      refine wp_seq_k (fun K4 h4 => ?_)
      refine W.region_plain (row := none) [(0, false), (1, false), (2, false), (3, true), (4, false), (5, false), (6, false), (7, false), (8, false)] (by kernel_rfl) ?_
      have s21 := SG.self w16 none
      refine W.sq (v := .agg #[.int .i64 m, .slice A n c]) rfl (r_load2 rfl (by kernel_rfl) (by kernel_rfl) (by kernel_rfl) (sgS (blk_cell (j := 0) x6 (by kernel_rfl)) (by simp)) (sgS (blk_cell (j := 1) x6 (by kernel_rfl)) (by simp))) (by kernel_rfl) rfl rfl ?_
      refine W.sq (v := .slice A2 n2 c2) rfl (r_move rfl (by kernel_rfl)) (by kernel_rfl) rfl rfl ?_
      refine W.sq (v := .int .i64 a) rfl (r_move rfl (by kernel_rfl)) (by kernel_rfl) rfl rfl ?_
      refine W.sc (vs := [.agg #[.int .i64 m, .slice A n c], .slice A2 n2 c2, .int .i64 a]) rfl rfl (by kernel_rfl) (by kernel_rfl) (by kernel_rfl) rfl (l4Dry_any m A n c ps A2 n2 c2 vs a _ (Rd.kept ha (SG.belowR c20 s21 (fun kq e => by cases e))) (Rd.kept hb (SG.belowR c20 s21 (fun kq e => by cases e))) (by omega) (by omega) hp (by omega) (by omega) (by omega)) ?_
      rintro e w37 ⟨A22, n23, c24, A25, n26, c27, rfl, rd28, fm29, rd30, fm31, b36⟩
      have s38 := SG.of_below s21 b36
      refine ⟨_, rfl, s38, ?_⟩
      have hl34 := rd_ints_len rd28
      have hl35 := rd_ints_len rd30
      have := nodesL_len (linked ps (openQ vs true)) m.toNat a false
      have := idxL_len (linked ps (openQ vs true)) ps.length a false
      refine W.sq (v := .tuple #[.slice A22 n23 c24, .slice A25 n26 c27]) rfl (r_move rfl (by kernel_rfl)) (by kernel_rfl) rfl rfl ?_
      refine W.sq (v := .slice A22 n23 c24) rfl (r_extract (vs := #[.slice A22 n23 c24, .slice A25 n26 c27]) rfl (by kernel_rfl) (by kernel_rfl)) (by kernel_rfl) rfl rfl ?_
      refine W.sq (v := .slice A25 n26 c27) rfl (r_extract (vs := #[.slice A22 n23 c24, .slice A25 n26 c27]) rfl (by kernel_rfl) (by kernel_rfl)) (by kernel_rfl) rfl rfl ?_
      refine W.sq (v := .slice A22 n23 c24) rfl (r_assign rfl (by kernel_rfl)) (by kernel_rfl) rfl rfl ?_
      refine W.sq (v := .slice A25 n26 c27) rfl (r_assign rfl (by kernel_rfl)) (by kernel_rfl) rfl rfl ?_
      refine W.sch_end (l' := [.agg #[.int .i64 m, .slice A n c], .slice A2 n2 c2, .int .i64 a, .pointer (some ⟨b2, 0, none⟩), undef, undef, .slice none 0 0, .bool false, .slice A22 n23 c24, .slice A25 n26 c27, .agg #[.int .i64 m, .slice A n c], .slice A2 n2 c2, .bool true, .bool false, .bool false, .agg #[.int .i64 m, .slice A n c], .int .i64 a, .bool true, .bool false, .bool false, undef, .tuple #[.slice A22 n23 c24, .slice A25 n26 c27], .agg #[.int .i64 m, .slice A n c], .slice A2 n2 c2, .int .i64 a, .tuple #[.slice A22 n23 c24, .slice A25 n26 c27], .slice A22 n23 c24, .slice A25 n26 c27, undef, undef, undef]) (by kernel_rfl) ?_
      have x6 := SG.blk s38 x6 (by simp)
      have c39 := (SG.belowR c20 s38 (fun kq e => by cases e))
      refine h4 _ _ ?_
      refine wp_seq_k (fun K5 h5 => ?_)
      refine W.region_plain (row := none) [(0, false), (1, false), (2, true), (3, false), (4, false)] (by kernel_rfl) ?_
      have s40 := SG.self w37 none
      refine W.sq (v := .agg #[.int .i64 m, .slice A n c]) rfl (r_load2 rfl (by kernel_rfl) (by kernel_rfl) (by kernel_rfl) (sgS (blk_cell (j := 0) x6 (by kernel_rfl)) (by simp)) (sgS (blk_cell (j := 1) x6 (by kernel_rfl)) (by simp))) (by kernel_rfl) rfl rfl ?_
      refine W.sq (v := .slice A25 n26 c27) rfl (r_move rfl (by kernel_rfl)) (by kernel_rfl) rfl rfl ?_
      refine W.sc (vs := [.agg #[.int .i64 m, .slice A n c], .slice A25 n26 c27]) rfl rfl (by kernel_rfl) (by kernel_rfl) (by kernel_rfl) rfl (l4Ids_any m A n c ps A25 n26 c27 (idxL (linked ps (openQ vs true)) ps.length a false) _ (Rd.kept ha (SG.belowR c39 s40 (fun kq e => by cases e))) (by omega) (Rd.kept rd30 (SG.below s40)) (by omega) (fun y hy => (mem_idxL.1 hy).1)) ?_
      rintro e w49 ⟨A41, n42, c43, rfl, rd44, fm45, b48⟩
      have s50 := SG.of_below s40 b48
      refine ⟨_, rfl, s50, ?_⟩
      have hl46 := rd_ints_len rd44
      refine W.sq (v := .slice A41 n42 c43) rfl (r_assign rfl (by kernel_rfl)) (by kernel_rfl) rfl rfl ?_
      refine W.sq (v := .bool true) rfl (r_assign rfl (by kernel_rfl)) (by kernel_rfl) rfl rfl ?_
      refine W.sch_end (l' := [.agg #[.int .i64 m, .slice A n c], .slice A2 n2 c2, .int .i64 a, .pointer (some ⟨b2, 0, none⟩), undef, undef, .slice A41 n42 c43, .bool true, .slice A22 n23 c24, .slice A25 n26 c27, .agg #[.int .i64 m, .slice A n c], .slice A2 n2 c2, .bool true, .bool false, .bool false, .agg #[.int .i64 m, .slice A n c], .int .i64 a, .bool true, .bool false, .bool false, undef, .tuple #[.slice A22 n23 c24, .slice A25 n26 c27], .agg #[.int .i64 m, .slice A n c], .slice A2 n2 c2, .int .i64 a, .tuple #[.slice A22 n23 c24, .slice A25 n26 c27], .slice A22 n23 c24, .slice A25 n26 c27, .agg #[.int .i64 m, .slice A n c], .slice A25 n26 c27, .slice A41 n42 c43]) (by kernel_rfl) ?_
      have x6 := SG.blk s50 x6 (by simp)
      have c51 := (SG.belowR c39 s50 (fun kq e => by cases e))
      have rd52 := Rd.kept rd28 (SG.below s50)
      have rd53 := Rd.kept rd30 (SG.below s50)
      refine h5 _ _ ?_
      refine wp_ret ?_
      try simp only [Exit.then]
      refine ret2 (v := .slice A41 n42 c43) (x := .bool true) rfl (by kernel_rfl) (by kernel_rfl) ?_
      have ok54 : DryPipes_v1 m ps vs a = true := by unfold DryPipes_v1; rw [q14, q19]; rfl
      exact fin_rd  rd44 (by unfold DryPipes_v0; rw [if_pos ok54]) ok54.symm c51
    · rw [q18]
      have q55 : inB a 1 m = false := by have h9 := q18; rw [hv9.good, Bool.true_and] at h9; exact h9
      refine W.sq (v := .bool true) rfl (r_not (b := false) rfl (by kernel_rfl) rfl) (by kernel_rfl) rfl rfl ?_
      refine W.sq (v := .bool true) rfl (r_pick (b := false) rfl (by kernel_rfl) (by kernel_rfl)) (by kernel_rfl) rfl rfl ?_
      refine W.sch_end (l' := [.agg #[.int .i64 m, .slice A n c], .slice A2 n2 c2, .int .i64 a, .pointer (some ⟨b2, 0, none⟩), undef, undef, .slice none 0 0, .bool false, undef, undef, .agg #[.int .i64 m, .slice A n c], .slice A2 n2 c2, .bool true, .bool false, .bool false, .agg #[.int .i64 m, .slice A n c], .int .i64 a, .bool false, .bool true, .bool true, undef, undef, undef, undef, undef, undef, undef, undef, undef, undef, undef]) (by kernel_rfl) ?_
      have x6 := SG.blk s17 x6 (by simp)
      have c56 := (SG.belowR c9 s17 (fun kq e => by cases e))
      refine h3 _ _ ?_
      refine wp_cond_true (by kernel_rfl) ?_
      refine wp_seq_k (fun K6 h6 => ?_)
      refine W.region_plain (row := none) [(0, true), (1, false), (2, false)] (by kernel_rfl) ?_
      have s57 := SG.self w16 none
      refine W.sn (fun b => .slice (some ⟨b, 0, none⟩) 0 0) #[] 3 s57 rfl (by kernel_rfl) rfl (fun _ => by kernel_rfl) (fun b58 w59 hb60 k61 x62 s63 => ?_)
      have lo64 : w.heap.size ≤ b58 := by have := ((SG.belowR c56 s57 (fun kq e => by cases e))).size; omega
      have ne65 : b2 ≠ b58 := by have := blk_lt x6; have := World.grownBy.size s57; omega
      refine W.sq (v := .slice (some ⟨b58, 0, none⟩) 0 0) rfl (r_assign rfl (by kernel_rfl)) (by kernel_rfl) rfl rfl ?_
      refine W.sq (v := .bool false) rfl (r_assign rfl (by kernel_rfl)) (by kernel_rfl) rfl rfl ?_
      refine W.sch_end (l' := [.agg #[.int .i64 m, .slice A n c], .slice A2 n2 c2, .int .i64 a, .pointer (some ⟨b2, 0, none⟩), undef, undef, .slice (some ⟨b58, 0, none⟩) 0 0, .bool false, undef, undef, .agg #[.int .i64 m, .slice A n c], .slice A2 n2 c2, .bool true, .bool false, .bool false, .agg #[.int .i64 m, .slice A n c], .int .i64 a, .bool false, .bool true, .bool true, .slice (some ⟨b58, 0, none⟩) 0 0, undef, undef, undef, undef, undef, undef, undef, undef, undef, undef]) (by kernel_rfl) ?_
      have x6 := SG.blk s63 x6 (by simp)
      have c66 := (SG.belowR c56 s63 (fun kq e => by cases e))
      refine h6 _ _ ?_
      refine wp_ret ?_
      try simp only [Exit.then]
      refine ret2 (v := .slice (some ⟨b58, 0, none⟩) 0 0) (x := .bool false) rfl (by kernel_rfl) (by kernel_rfl) ?_
      have ok67 : DryPipes_v1 m ps vs a = false := by unfold DryPipes_v1; rw [q55, Bool.and_false]
      have ho68 := own_empty (base := w.heap.size) (size := 1) x62 lo64
      replace ho68 : World.ownsRow _ _ _ _ _ _ (intsV []) := ho68
      have nb69 : Nb b2 (.slice (some ⟨b58, 0, none⟩) 0 0) := nb_new (by have := ne65; omega)
      exact fin_rd (zs := []) (own_rd ho68) (by unfold DryPipes_v0; rw [if_neg (by rw [ok67]; simp)]) ok67.symm c66
  · rw [q14]
    refine W.sq (v := .bool true) rfl (r_not (b := false) rfl (by kernel_rfl) rfl) (by kernel_rfl) rfl rfl ?_
    refine W.sq (v := .bool true) rfl (r_move rfl (by kernel_rfl)) (by kernel_rfl) rfl rfl ?_
    refine W.sk s13 rfl (by kernel_rfl) rfl rfl ?_
    refine W.sk s13 rfl (by kernel_rfl) rfl rfl ?_
    refine W.sk s13 rfl (by kernel_rfl) rfl rfl ?_
    refine W.sk s13 rfl (by kernel_rfl) rfl rfl ?_
    refine W.sq (v := .bool true) rfl (r_pick (b := true) rfl (by kernel_rfl) (by kernel_rfl)) (by kernel_rfl) rfl rfl ?_
    refine W.sch_end (l' := [.agg #[.int .i64 m, .slice A n c], .slice A2 n2 c2, .int .i64 a, .pointer (some ⟨b2, 0, none⟩), undef, undef, .slice none 0 0, .bool false, undef, undef, .agg #[.int .i64 m, .slice A n c], .slice A2 n2 c2, .bool false, .bool true, .bool true, undef, undef, undef, undef, .bool true, undef, undef, undef, undef, undef, undef, undef, undef, undef, undef, undef]) (by kernel_rfl) ?_
    have x6 := SG.blk s13 x6 (by simp)
    have c70 := (SG.belowR c9 s13 (fun kq e => by cases e))
    refine h3 _ _ ?_
    refine wp_cond_true (by kernel_rfl) ?_
    refine wp_seq_k (fun K7 h7 => ?_)
    refine W.region_plain (row := none) [(0, true), (1, false), (2, false)] (by kernel_rfl) ?_
    have s71 := SG.self w12 none
    refine W.sn (fun b => .slice (some ⟨b, 0, none⟩) 0 0) #[] 3 s71 rfl (by kernel_rfl) rfl (fun _ => by kernel_rfl) (fun b72 w73 hb74 k75 x76 s77 => ?_)
    have lo78 : w.heap.size ≤ b72 := by have := ((SG.belowR c70 s71 (fun kq e => by cases e))).size; omega
    have ne79 : b2 ≠ b72 := by have := blk_lt x6; have := World.grownBy.size s71; omega
    refine W.sq (v := .slice (some ⟨b72, 0, none⟩) 0 0) rfl (r_assign rfl (by kernel_rfl)) (by kernel_rfl) rfl rfl ?_
    refine W.sq (v := .bool false) rfl (r_assign rfl (by kernel_rfl)) (by kernel_rfl) rfl rfl ?_
    refine W.sch_end (l' := [.agg #[.int .i64 m, .slice A n c], .slice A2 n2 c2, .int .i64 a, .pointer (some ⟨b2, 0, none⟩), undef, undef, .slice (some ⟨b72, 0, none⟩) 0 0, .bool false, undef, undef, .agg #[.int .i64 m, .slice A n c], .slice A2 n2 c2, .bool false, .bool true, .bool true, undef, undef, undef, undef, .bool true, .slice (some ⟨b72, 0, none⟩) 0 0, undef, undef, undef, undef, undef, undef, undef, undef, undef, undef]) (by kernel_rfl) ?_
    have x6 := SG.blk s77 x6 (by simp)
    have c80 := (SG.belowR c70 s77 (fun kq e => by cases e))
    refine h7 _ _ ?_
    refine wp_ret ?_
    try simp only [Exit.then]
    refine ret2 (v := .slice (some ⟨b72, 0, none⟩) 0 0) (x := .bool false) rfl (by kernel_rfl) (by kernel_rfl) ?_
    have ok81 : DryPipes_v1 m ps vs a = false := by unfold DryPipes_v1; rw [q14]; rfl
    have ho82 := own_empty (base := w.heap.size) (size := 1) x76 lo78
    replace ho82 : World.ownsRow _ _ _ _ _ _ (intsV []) := ho82
    have nb83 : Nb b2 (.slice (some ⟨b72, 0, none⟩) 0 0) := nb_new (by have := ne79; omega)
    exact fin_rd (zs := []) (own_rd ho82) (by unfold DryPipes_v0; rw [if_neg (by rw [ok81]; simp)]) ok81.symm c80

set_option maxRecDepth 100000 in
set_option maxHeartbeats 1000000 in
theorem DryPipes_impl (m : Int) (A : Option Addr) (n c : Nat) (ps : List Pp) (A2 : Option Addr) (n2 c2 : Nat) (vs : List Vv) (a : Int) (w : World) (ha : Rd w 4 A n (pipesV ps)) (hb : Rd w 4 A2 n2 (valvesV vs)) (hn : n ≤ 1048576) (hn2 : n2 ≤ 1048576) (hfm : Fm A n c) (hfm2 : Fm A2 n2 c2) :
    Calls Try.prog 41 #[.agg #[.int .i64 m, .slice A n c], .slice A2 n2 c2, .int .i64 a] w fun e w' => ∃ A' d, e = .returned (.tuple #[.slice A' (DryPipes_v0 m ps vs a).length d, .bool (DryPipes_v1 m ps vs a)]) ∧ w'.ownsRow w.heap.size 3 1 (.slice A' (DryPipes_v0 m ps vs a).length d) (DryPipes_v0 m ps vs a).length (intsV (DryPipes_v0 m ps vs a)) ∧ Below w.heap.size w w' := by
  have hl := rd_pipes_len ha
  have hl2 := rd_valves_len hb
  go_enter Try.func41, Try.ntmps41
  refine wp_seq_k (fun K1 h1 => ?_)
  refine W.region_plain (row := none) [(0, true), (1, false), (2, false)] (by kernel_rfl) ?_
  have s1 := SG.self w none
  refine W.sn (fun b => .pointer (some ⟨b, 0, none⟩)) #[.int .i64 m, .slice A n c] 31 s1 rfl (by kernel_rfl) rfl (fun _ => by kernel_rfl) (fun b2 w3 hb4 k5 x6 s7 => ?_)
  have lo8 : w.heap.size ≤ b2 := by have := ((SG.belowR (Below.refl _ _) s1 (fun kq e => by cases e))).size; omega
  refine W.sq (v := .slice none 0 0) rfl (r_assign rfl (by kernel_rfl)) (by kernel_rfl) rfl rfl ?_
  refine W.sq (v := .bool false) rfl (r_assign rfl (by kernel_rfl)) (by kernel_rfl) rfl rfl ?_
  refine W.sch_end (l' := [.agg #[.int .i64 m, .slice A n c], .slice A2 n2 c2, .int .i64 a, .pointer (some ⟨b2, 0, none⟩), undef, undef, .slice none 0 0, .bool false, undef, undef, undef, undef, undef, undef, undef, undef, undef, undef, undef, undef, undef, undef, undef, undef, undef, undef, undef, undef, undef, undef]) (by kernel_rfl) ?_
  have c9 := (SG.belowR (Below.refl _ _) s7 (fun kq e => by cases e))
  refine h1 _ _ ?_
  refine wp_seq_k (fun K2 h2 => ?_)
  refine wp_seq_k (fun K3 h3 => ?_)
  refine W.region_plain (row := none) [(0, false), (1, false), (2, true), (3, false), (4, false), (5, false), (6, false), (7, true), (8, false), (9, false)] (by kernel_rfl) ?_
  have s10 := SG.self w3 none
  refine W.sq (v := .agg #[.int .i64 m, .slice A n c]) rfl (r_load2 rfl (by kernel_rfl) (by kernel_rfl) (by kernel_rfl) (sgS (blk_cell (j := 0) x6 (by kernel_rfl)) (by simp)) (sgS (blk_cell (j := 1) x6 (by kernel_rfl)) (by simp))) (by kernel_rfl) rfl rfl ?_
  refine W.sq (v := .slice A2 n2 c2) rfl (r_move rfl (by kernel_rfl)) (by kernel_rfl) rfl rfl ?_
  refine W.sc (vs := [.agg #[.int .i64 m, .slice A n c], .slice A2 n2 c2]) rfl rfl (by kernel_rfl) (by kernel_rfl) (by kernel_rfl) rfl (IsValidValves_any m A n c ps A2 n2 c2 vs _ (Rd.kept ha (SG.belowR c9 s10 (fun kq e => by cases e))) (Rd.kept hb (SG.belowR c9 s10 (fun kq e => by cases e))) (by omega) (by omega) hfm2) ?_
  rintro e w12 ⟨rfl, b11⟩
  have s13 := SG.of_below s10 b11
  refine ⟨_, rfl, s13, ?_⟩
  rcases Bool.eq_false_or_eq_true (goodV m ps vs) with q14 | q14
  · rw [q14]
    have hv9 := goodV_of q14
    have hg := hv9.net
    have hgl := hg.lo
    have hgh := hg.hi
    have hp := hg.pipesIn
    have hlen10 := hg.len
    have hu := hv9.uniq
    have hvl := hv9.len
    refine W.sq (v := .bool false) rfl (r_not (b := true) rfl (by kernel_rfl) rfl) (by kernel_rfl) rfl rfl ?_
    refine W.sq (v := .bool false) rfl (r_move rfl (by kernel_rfl)) (by kernel_rfl) rfl rfl ?_
    refine W.sq (v := .agg #[.int .i64 m, .slice A n c]) rfl (r_load2 rfl (by kernel_rfl) (by kernel_rfl) (by kernel_rfl) (sgS (blk_cell (j := 0) x6 (by kernel_rfl)) (by simp)) (sgS (blk_cell (j := 1) x6 (by kernel_rfl)) (by simp))) (by kernel_rfl) rfl rfl ?_
    refine W.sq (v := .int .i64 a) rfl (r_move rfl (by kernel_rfl)) (by kernel_rfl) rfl rfl ?_
    refine W.sc (vs := [.agg #[.int .i64 m, .slice A n c], .int .i64 a]) rfl rfl (by kernel_rfl) (by kernel_rfl) (by kernel_rfl) rfl (has_any m A n c ps a _) ?_
    rintro e w16 ⟨rfl, b15⟩
    have s17 := SG.of_below s13 b15
    refine ⟨_, rfl, s17, ?_⟩
    rcases Bool.eq_false_or_eq_true (inB a 1 m) with q18 | q18
    · rw [q18]
      have ha9 := inB_iff.1 q18
      refine W.sq (v := .bool false) rfl (r_not (b := true) rfl (by kernel_rfl) rfl) (by kernel_rfl) rfl rfl ?_
      refine W.sq (v := .bool false) rfl (r_pick (b := false) rfl (by kernel_rfl) (by kernel_rfl)) (by kernel_rfl) rfl rfl ?_
      refine W.sch_end (l' := [.agg #[.int .i64 m, .slice A n c], .slice A2 n2 c2, .int .i64 a, .pointer (some ⟨b2, 0, none⟩), undef, undef, .slice none 0 0, .bool false, undef, undef, .agg #[.int .i64 m, .slice A n c], .slice A2 n2 c2, .bool true, .bool false, .bool false, .agg #[.int .i64 m, .slice A n c], .int .i64 a, .bool true, .bool false, .bool false, undef, undef, undef, undef, undef, undef, undef, undef, undef, undef]) (by kernel_rfl) ?_
      have x6 := SG.blk s17 x6 (by simp)
      have c19 := (SG.belowR c9 s17 (fun kq e => by cases e))
      refine h3 _ _ ?_
      refine wp_cond_false (by kernel_rfl) ?_
      refine wp_skip ?_
      refine h2 _ _ ?_
      refine wp_seq_k (fun K4 h4 => ?_)
      refine W.region_sch (row := none) (Sch.of [(0, false), (1, false), (2, false), (3, false), (4, true), (5, true), (6, false), (7, false), (8, false), (9, false), (10, false)]) (by kernel_rfl) (by kernel_rfl) (fun _ d _ _ _ h => by cases d <;> exact h) (by kernel_rfl) (fun w20 e21 s22 => ?_)
      refine W.sq (v := .agg #[.int .i64 m, .slice A n c]) rfl (r_load2 rfl (by kernel_rfl) (by kernel_rfl) (by kernel_rfl) (sgS (blk_cell (j := 0) x6 (by kernel_rfl)) (by simp)) (sgS (blk_cell (j := 1) x6 (by kernel_rfl)) (by simp))) (by kernel_rfl) rfl rfl ?_
      refine W.sq (v := .agg #[.int .i64 m, .slice A n c]) rfl (r_load2 rfl (by kernel_rfl) (by kernel_rfl) (by kernel_rfl) (sgS (blk_cell (j := 0) x6 (by kernel_rfl)) (by simp)) (sgS (blk_cell (j := 1) x6 (by kernel_rfl)) (by simp))) (by kernel_rfl) rfl rfl ?_
      refine W.sq (v := .slice A2 n2 c2) rfl (r_move rfl (by kernel_rfl)) (by kernel_rfl) rfl rfl ?_
      refine W.sq (v := .int .i64 a) rfl (r_move rfl (by kernel_rfl)) (by kernel_rfl) rfl rfl ?_
      refine W.sc (vs := [.agg #[.int .i64 m, .slice A n c], .slice A2 n2 c2, .int .i64 a]) rfl rfl (by kernel_rfl) (by kernel_rfl) (by kernel_rfl) rfl (watered_any m A n c ps A2 n2 c2 vs (a) (a).toNat _ (Rd.kept ha (SG.belowR c19 s22 (fun kq e => by cases e))) (Rd.kept hb (SG.belowR c19 s22 (fun kq e => by cases e))) (by omega) (by omega) hp (by omega) (by omega) hu (by omega) (by omega)) ?_
      rintro e w29 ⟨pb23, rfl, lo27, rd24, b28⟩
      have s30 := SG.of_below s22 b28
      refine ⟨_, rfl, s30, ?_⟩
      have hl25 := rd_bools_len rd24
      rw [wetL_len] at hl25
      have hl25 : (wetL (linked ps (openQ vs true)) (a)).length = 19 := wetL_len _ _
      have z42 := ((SG.belowR c19 s30 (fun kq e => by cases e))).size
      refine W.sc (vs := [.agg #[.int .i64 m, .slice A n c], .pointer (some ⟨pb23, 0, none⟩), .bool false]) rfl rfl (by kernel_rfl) (by kernel_rfl) (by kernel_rfl) rfl (nodesAndPipes_any m A n c ps pb23 false (linked ps (openQ vs true)) (a) _ (Rd.kept ha (SG.belowR c19 s30 (fun kq e => by cases e))) (by omega) (by omega) (by omega) rd24) ?_
      rintro e w46 ⟨A31, n32, c33, A34, n35, c36, rfl, ho37, ho38, nr39, b45⟩
      have s47 := SG.of_below s30 b45
      refine ⟨_, rfl, s47, ?_⟩
      have rd48 := Rd.kept rd24 b45
      have ho40 := own_base (base' := w.heap.size) ho37 z42
      have hlr43 := rd_ints_len (own_rd ho40)
      have nb49 : Nb b2 (.slice A31 n32 c33) := nb_lo ho37 (Nat.lt_of_lt_of_le (blk_lt x6) (World.grownBy.size s30))
      have ho41 := own_base (base' := w.heap.size) ho38 z42
      have hlr44 := rd_ints_len (own_rd ho41)
      have nb50 : Nb b2 (.slice A34 n35 c36) := nb_lo ho38 (Nat.lt_of_lt_of_le (blk_lt x6) (World.grownBy.size s30))
      refine W.sq (v := .tuple #[.slice A31 n32 c33, .slice A34 n35 c36]) rfl (r_move rfl (by kernel_rfl)) (by kernel_rfl) rfl rfl ?_
      refine W.sq (v := .slice A31 n32 c33) rfl (r_extract (vs := #[.slice A31 n32 c33, .slice A34 n35 c36]) rfl (by kernel_rfl) (by kernel_rfl)) (by kernel_rfl) rfl rfl ?_
      refine W.sq (v := .slice A34 n35 c36) rfl (r_extract (vs := #[.slice A31 n32 c33, .slice A34 n35 c36]) rfl (by kernel_rfl) (by kernel_rfl)) (by kernel_rfl) rfl rfl ?_
      refine W.sq (v := .slice A31 n32 c33) rfl (r_assign rfl (by kernel_rfl)) (by kernel_rfl) rfl rfl ?_
      refine W.sq (v := .slice A34 n35 c36) rfl (r_assign rfl (by kernel_rfl)) (by kernel_rfl) rfl rfl ?_
      refine W.sch_end (l' := [.agg #[.int .i64 m, .slice A n c], .slice A2 n2 c2, .int .i64 a, .pointer (some ⟨b2, 0, none⟩), undef, undef, .slice none 0 0, .bool false, .slice A31 n32 c33, .slice A34 n35 c36, .agg #[.int .i64 m, .slice A n c], .slice A2 n2 c2, .bool true, .bool false, .bool false, .agg #[.int .i64 m, .slice A n c], .int .i64 a, .bool true, .bool false, .bool false, .tuple #[.slice A31 n32 c33, .slice A34 n35 c36], .agg #[.int .i64 m, .slice A n c], .agg #[.int .i64 m, .slice A n c], .slice A2 n2 c2, .int .i64 a, .pointer (some ⟨pb23, 0, none⟩), .tuple #[.slice A31 n32 c33, .slice A34 n35 c36], .slice A31 n32 c33, .slice A34 n35 c36, undef]) (by kernel_rfl) ?_
      have x6 := SG.blk s47 x6 (by simp)
      have c51 := (SG.belowR c19 s47 (fun kq e => by cases e))
      refine h4 _ _ ?_
      refine wp_seq_k (fun K5 h5 => ?_)
      refine W.region_quiet [(0, false), (1, false), (2, false)] (by kernel_rfl) ?_
      refine W.sq (v := .slice A34 n35 c36) rfl (r_move rfl (by kernel_rfl)) (by kernel_rfl) rfl rfl ?_
      refine W.sq (v := .slice A34 n35 c36) rfl (r_assign rfl (by kernel_rfl)) (by kernel_rfl) rfl rfl ?_
      refine W.sq (v := .bool true) rfl (r_assign rfl (by kernel_rfl)) (by kernel_rfl) rfl rfl ?_
      refine W.sch_end (l' := [.agg #[.int .i64 m, .slice A n c], .slice A2 n2 c2, .int .i64 a, .pointer (some ⟨b2, 0, none⟩), undef, undef, .slice A34 n35 c36, .bool true, .slice A31 n32 c33, .slice A34 n35 c36, .agg #[.int .i64 m, .slice A n c], .slice A2 n2 c2, .bool true, .bool false, .bool false, .agg #[.int .i64 m, .slice A n c], .int .i64 a, .bool true, .bool false, .bool false, .tuple #[.slice A31 n32 c33, .slice A34 n35 c36], .agg #[.int .i64 m, .slice A n c], .agg #[.int .i64 m, .slice A n c], .slice A2 n2 c2, .int .i64 a, .pointer (some ⟨pb23, 0, none⟩), .tuple #[.slice A31 n32 c33, .slice A34 n35 c36], .slice A31 n32 c33, .slice A34 n35 c36, .slice A34 n35 c36]) (by kernel_rfl) ?_
      refine h5 _ _ ?_
      refine wp_ret ?_
      try simp only [Exit.then]
      refine ret2 (v := .slice A34 n35 c36) (x := .bool true) rfl (by kernel_rfl) (by kernel_rfl) ?_
      have ok52 : DryPipes_v1 m ps vs a = true := by unfold DryPipes_v1; rw [q14, q18]; rfl
      exact fin_ints  ho41 (by unfold DryPipes_v0; rw [if_pos ok52]) ok52.symm c51
    · rw [q18]
      refine W.sq (v := .bool true) rfl (r_not (b := false) rfl (by kernel_rfl) rfl) (by kernel_rfl) rfl rfl ?_
      refine W.sq (v := .bool true) rfl (r_pick (b := false) rfl (by kernel_rfl) (by kernel_rfl)) (by kernel_rfl) rfl rfl ?_
      refine W.sch_end (l' := [.agg #[.int .i64 m, .slice A n c], .slice A2 n2 c2, .int .i64 a, .pointer (some ⟨b2, 0, none⟩), undef, undef, .slice none 0 0, .bool false, undef, undef, .agg #[.int .i64 m, .slice A n c], .slice A2 n2 c2, .bool true, .bool false, .bool false, .agg #[.int .i64 m, .slice A n c], .int .i64 a, .bool false, .bool true, .bool true, undef, undef, undef, undef, undef, undef, undef, undef, undef, undef]) (by kernel_rfl) ?_
      have x6 := SG.blk s17 x6 (by simp)
      have c53 := (SG.belowR c9 s17 (fun kq e => by cases e))
      refine h3 _ _ ?_
      refine wp_cond_true (by kernel_rfl) ?_
      refine wp_seq_k (fun K6 h6 => ?_)
      refine W.region_quiet [(0, false), (1, false)] (by kernel_rfl) ?_
      refine W.sq (v := .slice none 0 0) rfl (r_assign rfl (by kernel_rfl)) (by kernel_rfl) rfl rfl ?_
      refine W.sq (v := .bool false) rfl (r_assign rfl (by kernel_rfl)) (by kernel_rfl) rfl rfl ?_
      refine W.sch_end (l' := [.agg #[.int .i64 m, .slice A n c], .slice A2 n2 c2, .int .i64 a, .pointer (some ⟨b2, 0, none⟩), undef, undef, .slice none 0 0, .bool false, undef, undef, .agg #[.int .i64 m, .slice A n c], .slice A2 n2 c2, .bool true, .bool false, .bool false, .agg #[.int .i64 m, .slice A n c], .int .i64 a, .bool false, .bool true, .bool true, undef, undef, undef, undef, undef, undef, undef, undef, undef, undef]) (by kernel_rfl) ?_
      refine h6 _ _ ?_
      refine wp_ret ?_
      try simp only [Exit.then]
      refine ret2 (v := .slice none 0 0) (x := .bool false) rfl (by kernel_rfl) (by kernel_rfl) ?_
      have ok54 : DryPipes_v1 m ps vs a = false := by unfold DryPipes_v1; rw [q18, Bool.and_false]
      exact fin_ints (zs := []) (World.ownsRow_nil _ _ _ _) (by unfold DryPipes_v0; rw [if_neg (by rw [ok54]; simp)]) ok54.symm c53
  · rw [q14]
    refine W.sq (v := .bool true) rfl (r_not (b := false) rfl (by kernel_rfl) rfl) (by kernel_rfl) rfl rfl ?_
    refine W.sq (v := .bool true) rfl (r_move rfl (by kernel_rfl)) (by kernel_rfl) rfl rfl ?_
    refine W.sk s13 rfl (by kernel_rfl) rfl rfl ?_
    refine W.sk s13 rfl (by kernel_rfl) rfl rfl ?_
    refine W.sk s13 rfl (by kernel_rfl) rfl rfl ?_
    refine W.sk s13 rfl (by kernel_rfl) rfl rfl ?_
    refine W.sq (v := .bool true) rfl (r_pick (b := true) rfl (by kernel_rfl) (by kernel_rfl)) (by kernel_rfl) rfl rfl ?_
    refine W.sch_end (l' := [.agg #[.int .i64 m, .slice A n c], .slice A2 n2 c2, .int .i64 a, .pointer (some ⟨b2, 0, none⟩), undef, undef, .slice none 0 0, .bool false, undef, undef, .agg #[.int .i64 m, .slice A n c], .slice A2 n2 c2, .bool false, .bool true, .bool true, undef, undef, undef, undef, .bool true, undef, undef, undef, undef, undef, undef, undef, undef, undef, undef]) (by kernel_rfl) ?_
    have x6 := SG.blk s13 x6 (by simp)
    have c55 := (SG.belowR c9 s13 (fun kq e => by cases e))
    refine h3 _ _ ?_
    refine wp_cond_true (by kernel_rfl) ?_
    refine wp_seq_k (fun K7 h7 => ?_)
    refine W.region_quiet [(0, false), (1, false)] (by kernel_rfl) ?_
    refine W.sq (v := .slice none 0 0) rfl (r_assign rfl (by kernel_rfl)) (by kernel_rfl) rfl rfl ?_
    refine W.sq (v := .bool false) rfl (r_assign rfl (by kernel_rfl)) (by kernel_rfl) rfl rfl ?_
    refine W.sch_end (l' := [.agg #[.int .i64 m, .slice A n c], .slice A2 n2 c2, .int .i64 a, .pointer (some ⟨b2, 0, none⟩), undef, undef, .slice none 0 0, .bool false, undef, undef, .agg #[.int .i64 m, .slice A n c], .slice A2 n2 c2, .bool false, .bool true, .bool true, undef, undef, undef, undef, .bool true, undef, undef, undef, undef, undef, undef, undef, undef, undef, undef]) (by kernel_rfl) ?_
    refine h7 _ _ ?_
    refine wp_ret ?_
    try simp only [Exit.then]
    refine ret2 (v := .slice none 0 0) (x := .bool false) rfl (by kernel_rfl) (by kernel_rfl) ?_
    have ok56 : DryPipes_v1 m ps vs a = false := by unfold DryPipes_v1; rw [q14]; rfl
    exact fin_ints (zs := []) (World.ownsRow_nil _ _ _ _) (by unfold DryPipes_v0; rw [if_neg (by rw [ok56]; simp)]) ok56.symm c55

end Go.Proofs.Ythdmbndndfiidaa
