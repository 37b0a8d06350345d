/- Segments and dry elements: both packages answer alike. -/
import Derived.Test.YthdmbndndfiidaaNap
import Derived.Test.YthdmbndndfiidaaValG
import Derived.Test.YthdmbndndfiidaaIsV
namespace Go.Proofs.Ythdmbndndfiidaa
open Go.RowKit
set_option linter.unusedVariables false
set_option linter.unusedSimpArgs false

theorem nbr_nil {n c : Nat} {u : Value} : NbR (.slice none n c) u := fun j e _ => by simp [Value.ownBlock] at e
/-- Two lists of the call's own, side by side, and a bool. -/
theorem fin_ints2 {w w' : World} {e : TypeId} {A A' : Option Addr} {n c n' c' : Nat} {zs vs zs' vs' : List Int} {b vb : Bool} (how : w'.ownsRow w.heap.size e 1 (.slice A n c) n (intsV zs)) (how' : w'.ownsRow w.heap.size e 1 (.slice A' n' c') n' (intsV zs')) (hz : zs = vs) (hz' : zs' = vs') (hb : b = vb) (nr : NbR (.slice A n c) (.slice A' n' c')) (bel : Below w.heap.size w w') :
    ∃ A0 d0 A1 d1, Ending.returned (.tuple #[.slice A n c, .slice A' n' c', .bool b]) = .returned (.tuple #[.slice A0 vs.length d0, .slice A1 vs'.length d1, .bool vb]) ∧ w'.ownsRow w.heap.size e 1 (.slice A0 vs.length d0) vs.length (intsV vs) ∧ w'.ownsRow w.heap.size e 1 (.slice A1 vs'.length d1) vs'.length (intsV vs') ∧ NbR (.slice A0 vs.length d0) (.slice A1 vs'.length d1) ∧ Below w.heap.size w w' := by
  subst hz hz' hb
  have hl := own_len how
  have hl' := own_len how'
  rw [ints_len] at hl hl'
  subst hl hl'
  exact ⟨_, _, _, _, rfl, how, how', nr, bel⟩
theorem fin_rd2 {w w' : World} {A A' : Option Addr} {n c n' c' : Nat} {zs vs zs' vs' : List Int} {b vb : Bool} (how : Rd w' 1 A n (intsV zs)) (how' : Rd w' 1 A' n' (intsV zs')) (hz : zs = vs) (hz' : zs' = vs') (hb : b = vb) (bel : Below w.heap.size w w') :
    ∃ A0 d0 A1 d1, Ending.returned (.tuple #[.slice A n c, .slice A' n' c', .bool b]) = .returned (.tuple #[.slice A0 vs.length d0, .slice A1 vs'.length d1, .bool vb]) ∧ Rd w' 1 A0 vs.length (intsV vs) ∧ Rd w' 1 A1 vs'.length (intsV vs') ∧ Below w.heap.size w w' := by
  subst hz hz' hb
  have hl := rd_ints_len how
  have hl' := rd_ints_len how'
  subst hl hl'
  exact ⟨_, _, _, _, rfl, how, how', bel⟩
theorem fin_rd {w w' : World} {A : Option Addr} {n c : Nat} {zs vs : List Int} {b vb : Bool} (how : Rd w' 1 A n (intsV zs)) (hz : zs = vs) (hb : b = vb) (bel : Below w.heap.size w w') :
    ∃ A' d, Ending.returned (.tuple #[.slice A n c, .bool b]) = .returned (.tuple #[.slice A' vs.length d, .bool vb]) ∧ Rd w' 1 A' vs.length (intsV vs) ∧ Below w.heap.size w w' := by
  subst hz hb
  have hl := rd_ints_len how
  subst hl
  exact ⟨_, _, rfl, how, bel⟩

def SegmentOfPipe_v2 (m : Int) (ps : List Pp) (vs : List Vv) (a : Int) : Bool := goodV m ps vs && decide (0 ≤ findL ps a)
noncomputable def SegmentOfPipe_v0 (m : Int) (ps : List Pp) (vs : List Vv) (a : Int) : List Int := if SegmentOfPipe_v2 m ps vs a = true then nodesL (linked ps (openQ vs false)) m.toNat (9 + findL ps a) true else []
theorem SegmentOfPipe_len (m : Int) (ps : List Pp) (vs : List Vv) (a : Int) : (SegmentOfPipe_v0 m ps vs a).length ≤ 1048576 := by
  unfold SegmentOfPipe_v0
  split
  · rename_i h
    have hg : goodV m ps vs = true := by unfold SegmentOfPipe_v2 at h; rw [Bool.and_eq_true] at h; exact h.1
    have hv := goodV_of hg
    have h1 := hv.net.hi
    have h2 := hv.net.len
    skip
    have := nodesL_len (linked ps (openQ vs false)) m.toNat (9 + findL ps a) true
    omega
  · simp
noncomputable def SegmentOfPipe_v1 (m : Int) (ps : List Pp) (vs : List Vv) (a : Int) : List Int := if SegmentOfPipe_v2 m ps vs a = true then idsAt ps (idxL (linked ps (openQ vs false)) ps.length (9 + findL ps a) true) else []
theorem SegmentOfPipe_len1 (m : Int) (ps : List Pp) (vs : List Vv) (a : Int) : (SegmentOfPipe_v1 m ps vs a).length ≤ 1048576 := by
  unfold SegmentOfPipe_v1
  split
  · rename_i h
    have hg : goodV m ps vs = true := by unfold SegmentOfPipe_v2 at h; rw [Bool.and_eq_true] at h; exact h.1
    have hv := goodV_of hg
    have h1 := hv.net.hi
    have h2 := hv.net.len
    rw [idsAt_len]
    have := idxL_len (linked ps (openQ vs false)) ps.length (9 + findL ps a) true
    omega
  · simp

set_option maxRecDepth 100000 in
set_option maxHeartbeats 1000000 in
theorem SegmentOfPipe_spec (m : Int) (A : Option Addr) (n c : Nat) (ps : List Pp) (A2 : Option Addr) (n2 c2 : Nat) (vs : List Vv) (a : Int) (w : World) (ha : Rd w 4 A n (pipesV ps)) (hb : Rd w 4 A2 n2 (valvesV vs)) (hn : n ≤ 1048576) (hn2 : n2 ≤ 1048576) (hfm : Fm A n c) (hfm2 : Fm A2 n2 c2) :
    Calls Try.prog 22 #[.agg #[.int .i64 m, .slice A n c], .slice A2 n2 c2, .int .i64 a] w fun e w' => ∃ A0 d0 A1 d1, e = .returned (.tuple #[.slice A0 (SegmentOfPipe_v0 m ps vs a).length d0, .slice A1 (SegmentOfPipe_v1 m ps vs a).length d1, .bool (SegmentOfPipe_v2 m ps vs a)]) ∧ Rd w' 1 A0 (SegmentOfPipe_v0 m ps vs a).length (intsV (SegmentOfPipe_v0 m ps vs a)) ∧ Rd w' 1 A1 (SegmentOfPipe_v1 m ps vs a).length (intsV (SegmentOfPipe_v1 m ps vs a)) ∧ Below w.heap.size w w' := by
  have hl := rd_pipes_len ha
  have hl2 := rd_valves_len hb
  have hfl := findL_lt ps a
  go_enter Try.func22, Try.ntmps22
  refine wp_seq_k (fun K1 h1 => ?_)
  refine W.region_plain (row := none) [(0, true), (1, false), (2, false), (3, false)] (by kernel_rfl) ?_
  have s1 := SG.self w none
  refine W.sn (fun b => .pointer (some ⟨b, 0, none⟩)) #[.int .i64 m, .slice A n c] 31 s1 rfl (by kernel_rfl) rfl (fun _ => by kernel_rfl) (fun b2 w3 hb4 k5 x6 s7 => ?_)
  have lo8 : w.heap.size ≤ b2 := by have := ((SG.belowR (Below.refl _ _) s1 (fun kq e => by cases e))).size; omega
  refine W.sq (v := .slice none 0 0) rfl (r_assign rfl (by kernel_rfl)) (by kernel_rfl) rfl rfl ?_
  refine W.sq (v := .slice none 0 0) rfl (r_assign rfl (by kernel_rfl)) (by kernel_rfl) rfl rfl ?_
  refine W.sq (v := .bool false) rfl (r_assign rfl (by kernel_rfl)) (by kernel_rfl) rfl rfl ?_
  refine W.sch_end (l' := [.agg #[.int .i64 m, .slice A n c], .slice A2 n2 c2, .int .i64 a, .pointer (some ⟨b2, 0, none⟩), undef, undef, .slice none 0 0, .slice none 0 0, .bool false, undef, undef, undef, undef, undef, undef, undef, undef, undef, undef, undef, undef, undef, undef, undef, undef, undef, undef, undef, undef, undef, undef, undef, undef, undef, undef, undef, undef, undef]) (by kernel_rfl) ?_
  have c9 := (SG.belowR (Below.refl _ _) s7 (fun kq e => by cases e))
  refine h1 _ _ ?_
  refine wp_seq_k (fun K2 h2 => ?_)
  refine W.region_plain (row := none) [(0, false), (1, false), (2, true), (3, false)] (by kernel_rfl) ?_
  have s10 := SG.self w3 none
  refine W.sq (v := .agg #[.int .i64 m, .slice A n c]) rfl (r_load2 rfl (by kernel_rfl) (by kernel_rfl) (by kernel_rfl) (sgS (blk_cell (j := 0) x6 (by kernel_rfl)) (by simp)) (sgS (blk_cell (j := 1) x6 (by kernel_rfl)) (by simp))) (by kernel_rfl) rfl rfl ?_
  refine W.sq (v := .int .i64 a) rfl (r_move rfl (by kernel_rfl)) (by kernel_rfl) rfl rfl ?_
  refine W.sc (vs := [.agg #[.int .i64 m, .slice A n c], .int .i64 a]) rfl rfl (by kernel_rfl) (by kernel_rfl) (by kernel_rfl) rfl (l2Find_any m A n c ps a _ (Rd.kept ha (SG.belowR c9 s10 (fun kq e => by cases e))) (by omega)) ?_
  rintro e w12 ⟨rfl, b11⟩
  have s13 := SG.of_below s10 b11
  refine ⟨_, rfl, s13, ?_⟩
  refine W.sq (v := .int .i64 (findL ps a)) rfl (r_assign rfl (by kernel_rfl)) (by kernel_rfl) rfl rfl ?_
  refine W.sch_endU (fun U14 => [.agg #[.int .i64 m, .slice A n c], .slice A2 n2 c2, .int .i64 a, .pointer (some ⟨b2, 0, none⟩), undef, undef, .slice none 0 0, .slice none 0 0, .bool false, .int .i64 (findL ps a), undef, undef, U14 12, U14 13, U14 14, undef, undef, undef, undef, undef, undef, undef, undef, undef, undef, undef, undef, undef, undef, undef, undef, undef, undef, undef, undef, undef, undef, undef]) (by kernel_rfl) (fun U14 => ?_)
  have x6 := SG.blk s13 x6 (by simp)
  have c15 := (SG.belowR c9 s13 (fun kq e => by cases e))
  refine h2 _ _ ?_
  refine wp_seq_k (fun K3 h3 => ?_)
  refine wp_seq_k (fun K4 h4 => ?_)
  refine W.region_plain (row := none) [(0, false), (1, false), (2, true), (3, false), (4, false), (5, false), (6, false), (7, false)] (by kernel_rfl) ?_
  have s16 := SG.self w12 none
  refine W.sq (v := .agg #[.int .i64 m, .slice A n c]) rfl (r_load2 rfl (by kernel_rfl) (by kernel_rfl) (by kernel_rfl) (sgS (blk_cell (j := 0) x6 (by kernel_rfl)) (by simp)) (sgS (blk_cell (j := 1) x6 (by kernel_rfl)) (by simp))) (by kernel_rfl) rfl rfl ?_
  refine W.sq (v := .slice A2 n2 c2) rfl (r_move rfl (by kernel_rfl)) (by kernel_rfl) rfl rfl ?_
  refine W.sc (vs := [.agg #[.int .i64 m, .slice A n c], .slice A2 n2 c2]) rfl rfl (by kernel_rfl) (by kernel_rfl) (by kernel_rfl) rfl (l4Good_any m A n c ps A2 n2 c2 vs _ (Rd.kept ha (SG.belowR c15 s16 (fun kq e => by cases e))) (Rd.kept hb (SG.belowR c15 s16 (fun kq e => by cases e))) (by omega) (by omega)) ?_
  rintro e w18 ⟨rfl, b17⟩
  have s19 := SG.of_below s16 b17
  refine ⟨_, rfl, s19, ?_⟩
  rcases Bool.eq_false_or_eq_true (goodV m ps vs) with q20 | q20
  · rw [q20]
    have hv9 := goodV_of q20
    have hg := hv9.net
    have hgl := hg.lo
    have hgh := hg.hi
    have hp := hg.pipesIn
    have hlen10 := hg.len
    have hu := hv9.uniq
    have hvl := hv9.len
    refine W.sq (v := .bool false) rfl (r_not (b := true) rfl (by kernel_rfl) rfl) (by kernel_rfl) rfl rfl ?_
    refine W.sq (v := .bool false) rfl (r_move rfl (by kernel_rfl)) (by kernel_rfl) rfl rfl ?_
    refine W.sq (v := .int .i64 (findL ps a)) rfl (r_move rfl (by kernel_rfl)) (by kernel_rfl) rfl rfl ?_
    by_cases q21 : (findL ps a : Int) < (0 : Int)
    · refine W.sq (v := .bool true) rfl (r_lss (m := findL ps a) (n := 0) rfl (by kernel_rfl) (by kernel_rfl) (decide_eq_true q21)) (by kernel_rfl) rfl rfl ?_
      refine W.sq (v := .bool true) rfl (r_pick (b := false) rfl (by kernel_rfl) (by kernel_rfl)) (by kernel_rfl) rfl rfl ?_
      refine W.sch_endU (fun U22 => [.agg #[.int .i64 m, .slice A n c], .slice A2 n2 c2, .int .i64 a, .pointer (some ⟨b2, 0, none⟩), undef, undef, .slice none 0 0, .slice none 0 0, .bool false, .int .i64 (findL ps a), undef, undef, (U14 12), (U14 13), (U14 14), U22 15, U22 16, U22 17, U22 18, U22 19, U22 20, U22 21, .bool true, undef, undef, undef, undef, undef, undef, undef, undef, undef, undef, undef, undef, undef, undef, undef]) (by kernel_rfl) (fun U22 => ?_)
      have x6 := SG.blk s19 x6 (by simp)
      have c23 := (SG.belowR c15 s19 (fun kq e => by cases e))
      refine h4 _ _ ?_
      refine wp_cond_true (by kernel_rfl) ?_
      refine wp_seq_k (fun K5 h5 => ?_)
      refine W.region_plain (row := none) [(0, true), (1, true), (2, false), (3, false), (4, false)] (by kernel_rfl) ?_
      have s24 := SG.self w18 none
      refine W.sn (fun b => .slice (some ⟨b, 0, none⟩) 0 0) #[] 3 s24 rfl (by kernel_rfl) rfl (fun _ => by kernel_rfl) (fun b25 w26 hb27 k28 x29 s30 => ?_)
      have lo31 : w.heap.size ≤ b25 := by have := ((SG.belowR c23 s24 (fun kq e => by cases e))).size; omega
      have ne32 : b2 ≠ b25 := by have := blk_lt x6; have := World.grownBy.size s24; omega
      refine W.sn (fun b => .slice (some ⟨b, 0, none⟩) 0 0) #[] 3 s30 rfl (by kernel_rfl) rfl (fun _ => by kernel_rfl) (fun b33 w34 hb35 k36 x37 s38 => ?_)
      have lo39 : w.heap.size ≤ b33 := by have := ((SG.belowR c23 s30 (fun kq e => by cases e))).size; omega
      have ne40 : b2 ≠ b33 := by have := blk_lt x6; have := World.grownBy.size s30; omega
      have ne41 : b25 ≠ b33 := by have := blk_lt x29; omega
      have x29 := (k36.block _ (blk_lt x29)).trans x29
      refine W.sq (v := .slice (some ⟨b25, 0, none⟩) 0 0) rfl (r_assign rfl (by kernel_rfl)) (by kernel_rfl) rfl rfl ?_
      refine W.sq (v := .slice (some ⟨b33, 0, none⟩) 0 0) rfl (r_assign rfl (by kernel_rfl)) (by kernel_rfl) rfl rfl ?_
      refine W.sq (v := .bool false) rfl (r_assign rfl (by kernel_rfl)) (by kernel_rfl) rfl rfl ?_
      refine W.sch_endU (fun U42 => [.agg #[.int .i64 m, .slice A n c], .slice A2 n2 c2, .int .i64 a, .pointer (some ⟨b2, 0, none⟩), undef, undef, .slice (some ⟨b25, 0, none⟩) 0 0, .slice (some ⟨b33, 0, none⟩) 0 0, .bool false, .int .i64 (findL ps a), undef, undef, (U14 12), (U14 13), (U14 14), (U22 15), (U22 16), (U22 17), (U22 18), (U22 19), (U22 20), (U22 21), .bool true, U42 23, U42 24, undef, undef, undef, undef, undef, undef, undef, undef, undef, undef, undef, undef, undef]) (by kernel_rfl) (fun U42 => ?_)
      have x6 := SG.blk s38 x6 (by simp)
      have c43 := (SG.belowR c23 s38 (fun kq e => by cases e))
      refine h5 _ _ ?_
      refine wp_ret ?_
      try simp only [Exit.then]
      refine ret3 (v := .slice (some ⟨b25, 0, none⟩) 0 0) (x := .slice (some ⟨b33, 0, none⟩) 0 0) (y := .bool false) rfl (by kernel_rfl) (by kernel_rfl) (by kernel_rfl) ?_
      have ok44 : SegmentOfPipe_v2 m ps vs a = false := by unfold SegmentOfPipe_v2; rw [decide_eq_false (by omega), Bool.and_false]
      have ho45 := own_empty (base := w.heap.size) (size := 1) x29 lo31
      replace ho45 : World.ownsRow _ _ _ _ _ _ (intsV []) := ho45
      have nb46 : Nb b2 (.slice (some ⟨b25, 0, none⟩) 0 0) := nb_new (by have := ne32; omega)
      have nb47 : Nb b33 (.slice (some ⟨b25, 0, none⟩) 0 0) := nb_new (by have := ne41; omega)
      have ho48 := own_empty (base := w.heap.size) (size := 1) x37 lo39
      replace ho48 : World.ownsRow _ _ _ _ _ _ (intsV []) := ho48
      have nr49 : NbR (.slice (some ⟨b33, 0, none⟩) 0 0) (.slice (some ⟨b25, 0, none⟩) 0 0) := nbr_new nb47
      have nb50 : Nb b2 (.slice (some ⟨b33, 0, none⟩) 0 0) := nb_new (by have := ne40; omega)
      exact fin_rd2 (zs := []) (zs' := []) (own_rd ho45) (own_rd ho48) (by unfold SegmentOfPipe_v0; rw [if_neg (by rw [ok44]; simp)]) (by unfold SegmentOfPipe_v1; rw [if_neg (by rw [ok44]; simp)]) ok44.symm c43
    · refine W.sq (v := .bool false) rfl (r_lss (m := findL ps a) (n := 0) rfl (by kernel_rfl) (by kernel_rfl) (decide_eq_false q21)) (by kernel_rfl) rfl rfl ?_
      refine W.sq (v := .bool false) rfl (r_pick (b := false) rfl (by kernel_rfl) (by kernel_rfl)) (by kernel_rfl) rfl rfl ?_
      refine W.sch_endU (fun U51 => [.agg #[.int .i64 m, .slice A n c], .slice A2 n2 c2, .int .i64 a, .pointer (some ⟨b2, 0, none⟩), undef, undef, .slice none 0 0, .slice none 0 0, .bool false, .int .i64 (findL ps a), undef, undef, (U14 12), (U14 13), (U14 14), U51 15, U51 16, U51 17, U51 18, U51 19, U51 20, U51 21, .bool false, undef, undef, undef, undef, undef, undef, undef, undef, undef, undef, undef, undef, undef, undef, undef]) (by kernel_rfl) (fun U51 => ?_)
      have x6 := SG.blk s19 x6 (by simp)
      have c52 := (SG.belowR c15 s19 (fun kq e => by cases e))
      refine h4 _ _ ?_
      refine wp_cond_false (by kernel_rfl) ?_
      refine wp_skip ?_
      refine h3 _ _ ?_
      refine wp_seq_k (fun K6 h6 => ?_)
      refine W.region_plain (row := none) [(0, false), (1, false), (2, true), (3, false), (4, true), (5, true), (6, false), (7, false), (8, false), (9, false), (10, false)] (by kernel_rfl) ?_
      have s53 := SG.self w18 none
      refine W.sq (v := .agg #[.int .i64 m, .slice A n c]) rfl (r_load2 rfl (by kernel_rfl) (by kernel_rfl) (by kernel_rfl) (sgS (blk_cell (j := 0) x6 (by kernel_rfl)) (by simp)) (sgS (blk_cell (j := 1) x6 (by kernel_rfl)) (by simp))) (by kernel_rfl) rfl rfl ?_
      refine W.sq (v := .slice A2 n2 c2) rfl (r_move rfl (by kernel_rfl)) (by kernel_rfl) rfl rfl ?_
      refine W.sn (fun b => .slice (some ⟨b, 0, none⟩) 0 0) #[] 3 s53 rfl (by kernel_rfl) rfl (fun _ => by kernel_rfl) (fun b54 w55 hb56 k57 x58 s59 => ?_)
      have lo60 : w.heap.size ≤ b54 := by have := ((SG.belowR c52 s53 (fun kq e => by cases e))).size; omega
      have ne61 : b2 ≠ b54 := by have := blk_lt x6; have := World.grownBy.size s53; omega
      refine W.sq (v := .int .i64 (findL ps a)) rfl (r_move rfl (by kernel_rfl)) (by kernel_rfl) rfl rfl ?_
      refine W.sn (fun b => .slice (some ⟨b, 0, none⟩) 1 1) #[.int .i64 (findL ps a)] 3 s59 rfl (by kernel_rfl) rfl (fun _ => by kernel_rfl) (fun b62 w63 hb64 k65 x66 s67 => ?_)
      have lo68 : w.heap.size ≤ b62 := by have := ((SG.belowR c52 s59 (fun kq e => by cases e))).size; omega
      have ne69 : b2 ≠ b62 := by have := blk_lt x6; have := World.grownBy.size s59; omega
      have ne70 : b54 ≠ b62 := by have := blk_lt x58; omega
      have x58 := (k65.block _ (blk_lt x58)).trans x58
      have ho71 := own_empty (base := w.heap.size) (size := 1) x58 lo60
      replace ho71 : World.ownsRow _ _ _ _ _ _ (intsV []) := ho71
      have nb72 : Nb b2 (.slice (some ⟨b54, 0, none⟩) 0 0) := nb_new (by have := ne61; omega)
      have nb73 : Nb b62 (.slice (some ⟨b54, 0, none⟩) 0 0) := nb_new (by have := ne70; omega)
      have rd75 := own_rd ho71
      have hl76 := rd_ints_len rd75
      have ho77 := own_blk (base := w.heap.size) (size := 1) (n := 1) x66 lo68 rfl (by omega)
      replace ho77 : World.ownsRow _ _ _ _ _ _ (intsV [findL ps a]) := ho77
      have nb78 : Nb b2 (.slice (some ⟨b62, 0, none⟩) 1 1) := nb_new (by have := ne69; omega)
      have rd80 := own_rd ho77
      have hl81 := rd_ints_len rd80
      refine W.sc (vs := [.agg #[.int .i64 m, .slice A n c], .slice A2 n2 c2, .bool false, .slice (some ⟨b54, 0, none⟩) 0 0, .slice (some ⟨b62, 0, none⟩) 1 1]) rfl rfl (by kernel_rfl) (by kernel_rfl) (by kernel_rfl) rfl (l4Spread_false m A n c ps A2 n2 c2 vs (9 + (findL ps a)) (some ⟨b54, 0, none⟩) 0 0 ([]) (some ⟨b62, 0, none⟩) 1 1 ([findL ps a]) _ (Rd.kept ha (SG.belowR c52 s67 (fun kq e => by cases e))) (Rd.kept hb (SG.belowR c52 s67 (fun kq e => by cases e))) (by omega) (by omega) hp (by omega) (by omega) rd75 (own_fm ho71) rd80 (own_fm ho77) (FndQ.startP _ (by omega))) ?_
      rintro e w97 ⟨A82, n83, c84, A85, n86, c87, rfl, rd88, fm89, rd90, fm91, b96⟩
      have s98 := SG.of_below s67 b96
      refine ⟨_, rfl, s98, ?_⟩
      have rd99 := Rd.kept rd75 b96
      have rd100 := Rd.kept rd80 b96
      have hl94 := rd_ints_len rd88
      have hl95 := rd_ints_len rd90
      have := nodesL_len (linked ps (openQ vs false)) m.toNat (9 + (findL ps a)) true
      have := idxL_len (linked ps (openQ vs false)) ps.length (9 + (findL ps a)) true
      refine W.sq (v := .tuple #[.slice A82 n83 c84, .slice A85 n86 c87]) rfl (r_move rfl (by kernel_rfl)) (by kernel_rfl) rfl rfl ?_
      refine W.sq (v := .slice A82 n83 c84) rfl (r_extract (vs := #[.slice A82 n83 c84, .slice A85 n86 c87]) rfl (by kernel_rfl) (by kernel_rfl)) (by kernel_rfl) rfl rfl ?_
      refine W.sq (v := .slice A85 n86 c87) rfl (r_extract (vs := #[.slice A82 n83 c84, .slice A85 n86 c87]) rfl (by kernel_rfl) (by kernel_rfl)) (by kernel_rfl) rfl rfl ?_
      refine W.sq (v := .slice A82 n83 c84) rfl (r_assign rfl (by kernel_rfl)) (by kernel_rfl) rfl rfl ?_
      refine W.sq (v := .slice A85 n86 c87) rfl (r_assign rfl (by kernel_rfl)) (by kernel_rfl) rfl rfl ?_
      refine W.sch_endU (fun U101 => [.agg #[.int .i64 m, .slice A n c], .slice A2 n2 c2, .int .i64 a, .pointer (some ⟨b2, 0, none⟩), undef, undef, .slice none 0 0, .slice none 0 0, .bool false, .int .i64 (findL ps a), .slice A82 n83 c84, .slice A85 n86 c87, (U14 12), (U14 13), (U14 14), (U51 15), (U51 16), (U51 17), (U51 18), (U51 19), (U51 20), (U51 21), .bool false, undef, undef, U101 25, U101 26, U101 27, U101 28, U101 29, U101 30, U101 31, U101 32, U101 33, undef, undef, undef, undef]) (by kernel_rfl) (fun U101 => ?_)
      have x6 := SG.blk s98 x6 (by simp)
      have c102 := (SG.belowR c52 s98 (fun kq e => by cases e))
      refine h6 _ _ ?_
      refine wp_seq_k (fun K7 h7 => ?_)
      refine W.region_plain (row := none) [(0, false), (1, false), (2, false), (3, true), (4, false), (5, false), (6, false)] (by kernel_rfl) ?_
      have s103 := SG.self w97 none
      refine W.sq (v := .slice A82 n83 c84) rfl (r_move rfl (by kernel_rfl)) (by kernel_rfl) rfl rfl ?_
      refine W.sq (v := .agg #[.int .i64 m, .slice A n c]) rfl (r_load2 rfl (by kernel_rfl) (by kernel_rfl) (by kernel_rfl) (sgS (blk_cell (j := 0) x6 (by kernel_rfl)) (by simp)) (sgS (blk_cell (j := 1) x6 (by kernel_rfl)) (by simp))) (by kernel_rfl) rfl rfl ?_
      refine W.sq (v := .slice A85 n86 c87) rfl (r_move rfl (by kernel_rfl)) (by kernel_rfl) rfl rfl ?_
      refine W.sc (vs := [.agg #[.int .i64 m, .slice A n c], .slice A85 n86 c87]) rfl rfl (by kernel_rfl) (by kernel_rfl) (by kernel_rfl) rfl (l4Ids_any m A n c ps A85 n86 c87 (idxL (linked ps (openQ vs false)) ps.length (9 + (findL ps a)) true) _ (Rd.kept ha (SG.belowR c102 s103 (fun kq e => by cases e))) (by omega) (Rd.kept rd90 (SG.below s103)) (by omega) (fun y hy => (mem_idxL.1 hy).1)) ?_
      rintro e w112 ⟨A104, n105, c106, rfl, rd107, fm108, b111⟩
      have s113 := SG.of_below s103 b111
      refine ⟨_, rfl, s113, ?_⟩
      have hl109 := rd_ints_len rd107
      refine W.sq (v := .slice A82 n83 c84) rfl (r_assign rfl (by kernel_rfl)) (by kernel_rfl) rfl rfl ?_
      refine W.sq (v := .slice A104 n105 c106) rfl (r_assign rfl (by kernel_rfl)) (by kernel_rfl) rfl rfl ?_
      refine W.sq (v := .bool true) rfl (r_assign rfl (by kernel_rfl)) (by kernel_rfl) rfl rfl ?_
      refine W.sch_endU (fun U114 => [.agg #[.int .i64 m, .slice A n c], .slice A2 n2 c2, .int .i64 a, .pointer (some ⟨b2, 0, none⟩), undef, undef, .slice A82 n83 c84, .slice A104 n105 c106, .bool true, .int .i64 (findL ps a), .slice A82 n83 c84, .slice A85 n86 c87, (U14 12), (U14 13), (U14 14), (U51 15), (U51 16), (U51 17), (U51 18), (U51 19), (U51 20), (U51 21), .bool false, undef, undef, (U101 25), (U101 26), (U101 27), (U101 28), (U101 29), (U101 30), (U101 31), (U101 32), (U101 33), U114 34, U114 35, U114 36, U114 37]) (by kernel_rfl) (fun U114 => ?_)
      have x6 := SG.blk s113 x6 (by simp)
      have c115 := (SG.belowR c102 s113 (fun kq e => by cases e))
      have rd116 := Rd.kept rd99 (SG.below s113)
      have rd117 := Rd.kept rd100 (SG.below s113)
      have rd118 := Rd.kept rd88 (SG.below s113)
      have rd119 := Rd.kept rd90 (SG.below s113)
      refine h7 _ _ ?_
      refine wp_ret ?_
      try simp only [Exit.then]
      refine ret3 (v := .slice A82 n83 c84) (x := .slice A104 n105 c106) (y := .bool true) rfl (by kernel_rfl) (by kernel_rfl) (by kernel_rfl) ?_
      have ok120 : SegmentOfPipe_v2 m ps vs a = true := by unfold SegmentOfPipe_v2; rw [q20, decide_eq_true (by omega)]; rfl
      exact fin_rd2  rd118 rd107 (by unfold SegmentOfPipe_v0; rw [if_pos ok120]) (by unfold SegmentOfPipe_v1; rw [if_pos ok120]) ok120.symm c115
  · rw [q20]
    refine W.sq (v := .bool true) rfl (r_not (b := false) rfl (by kernel_rfl) rfl) (by kernel_rfl) rfl rfl ?_
    refine W.sq (v := .bool true) rfl (r_move rfl (by kernel_rfl)) (by kernel_rfl) rfl rfl ?_
    refine W.sk s19 rfl (by kernel_rfl) rfl rfl ?_
    refine W.sk s19 rfl (by kernel_rfl) rfl rfl ?_
    refine W.sq (v := .bool true) rfl (r_pick (b := true) rfl (by kernel_rfl) (by kernel_rfl)) (by kernel_rfl) rfl rfl ?_
    refine W.sch_endU (fun U121 => [.agg #[.int .i64 m, .slice A n c], .slice A2 n2 c2, .int .i64 a, .pointer (some ⟨b2, 0, none⟩), undef, undef, .slice none 0 0, .slice none 0 0, .bool false, .int .i64 (findL ps a), undef, undef, (U14 12), (U14 13), (U14 14), U121 15, U121 16, U121 17, U121 18, U121 19, undef, undef, .bool true, undef, undef, undef, undef, undef, undef, undef, undef, undef, undef, undef, undef, undef, undef, undef]) (by kernel_rfl) (fun U121 => ?_)
    have x6 := SG.blk s19 x6 (by simp)
    have c122 := (SG.belowR c15 s19 (fun kq e => by cases e))
    refine h4 _ _ ?_
    refine wp_cond_true (by kernel_rfl) ?_
    refine wp_seq_k (fun K8 h8 => ?_)
    refine W.region_plain (row := none) [(0, true), (1, true), (2, false), (3, false), (4, false)] (by kernel_rfl) ?_
    have s123 := SG.self w18 none
    refine W.sn (fun b => .slice (some ⟨b, 0, none⟩) 0 0) #[] 3 s123 rfl (by kernel_rfl) rfl (fun _ => by kernel_rfl) (fun b124 w125 hb126 k127 x128 s129 => ?_)
    have lo130 : w.heap.size ≤ b124 := by have := ((SG.belowR c122 s123 (fun kq e => by cases e))).size; omega
    have ne131 : b2 ≠ b124 := by have := blk_lt x6; have := World.grownBy.size s123; omega
    refine W.sn (fun b => .slice (some ⟨b, 0, none⟩) 0 0) #[] 3 s129 rfl (by kernel_rfl) rfl (fun _ => by kernel_rfl) (fun b132 w133 hb134 k135 x136 s137 => ?_)
    have lo138 : w.heap.size ≤ b132 := by have := ((SG.belowR c122 s129 (fun kq e => by cases e))).size; omega
    have ne139 : b2 ≠ b132 := by have := blk_lt x6; have := World.grownBy.size s129; omega
    have ne140 : b124 ≠ b132 := by have := blk_lt x128; omega
    have x128 := (k135.block _ (blk_lt x128)).trans x128
    refine W.sq (v := .slice (some ⟨b124, 0, none⟩) 0 0) rfl (r_assign rfl (by kernel_rfl)) (by kernel_rfl) rfl rfl ?_
    refine W.sq (v := .slice (some ⟨b132, 0, none⟩) 0 0) rfl (r_assign rfl (by kernel_rfl)) (by kernel_rfl) rfl rfl ?_
    refine W.sq (v := .bool false) rfl (r_assign rfl (by kernel_rfl)) (by kernel_rfl) rfl rfl ?_
    refine W.sch_endU (fun U141 => [.agg #[.int .i64 m, .slice A n c], .slice A2 n2 c2, .int .i64 a, .pointer (some ⟨b2, 0, none⟩), undef, undef, .slice (some ⟨b124, 0, none⟩) 0 0, .slice (some ⟨b132, 0, none⟩) 0 0, .bool false, .int .i64 (findL ps a), undef, undef, (U14 12), (U14 13), (U14 14), (U121 15), (U121 16), (U121 17), (U121 18), (U121 19), undef, undef, .bool true, U141 23, U141 24, undef, undef, undef, undef, undef, undef, undef, undef, undef, undef, undef, undef, undef]) (by kernel_rfl) (fun U141 => ?_)
    have x6 := SG.blk s137 x6 (by simp)
    have c142 := (SG.belowR c122 s137 (fun kq e => by cases e))
    refine h8 _ _ ?_
    refine wp_ret ?_
    try simp only [Exit.then]
    refine ret3 (v := .slice (some ⟨b124, 0, none⟩) 0 0) (x := .slice (some ⟨b132, 0, none⟩) 0 0) (y := .bool false) rfl (by kernel_rfl) (by kernel_rfl) (by kernel_rfl) ?_
    have ok143 : SegmentOfPipe_v2 m ps vs a = false := by unfold SegmentOfPipe_v2; rw [q20]; rfl
    have ho144 := own_empty (base := w.heap.size) (size := 1) x128 lo130
    replace ho144 : World.ownsRow _ _ _ _ _ _ (intsV []) := ho144
    have nb145 : Nb b2 (.slice (some ⟨b124, 0, none⟩) 0 0) := nb_new (by have := ne131; omega)
    have nb146 : Nb b132 (.slice (some ⟨b124, 0, none⟩) 0 0) := nb_new (by have := ne140; omega)
    have ho147 := own_empty (base := w.heap.size) (size := 1) x136 lo138
    replace ho147 : World.ownsRow _ _ _ _ _ _ (intsV []) := ho147
    have nr148 : NbR (.slice (some ⟨b132, 0, none⟩) 0 0) (.slice (some ⟨b124, 0, none⟩) 0 0) := nbr_new nb146
    have nb149 : Nb b2 (.slice (some ⟨b132, 0, none⟩) 0 0) := nb_new (by have := ne139; omega)
    exact fin_rd2 (zs := []) (zs' := []) (own_rd ho144) (own_rd ho147) (by unfold SegmentOfPipe_v0; rw [if_neg (by rw [ok143]; simp)]) (by unfold SegmentOfPipe_v1; rw [if_neg (by rw [ok143]; simp)]) ok143.symm c142

set_option maxRecDepth 100000 in
set_option maxHeartbeats 1000000 in
theorem SegmentOfPipe_impl (m : Int) (A : Option Addr) (n c : Nat) (ps : List Pp) (A2 : Option Addr) (n2 c2 : Nat) (vs : List Vv) (a : Int) (w : World) (ha : Rd w 4 A n (pipesV ps)) (hb : Rd w 4 A2 n2 (valvesV vs)) (hn : n ≤ 1048576) (hn2 : n2 ≤ 1048576) (hfm : Fm A n c) (hfm2 : Fm A2 n2 c2) :
    Calls Try.prog 23 #[.agg #[.int .i64 m, .slice A n c], .slice A2 n2 c2, .int .i64 a] w fun e w' => ∃ A0 d0 A1 d1, e = .returned (.tuple #[.slice A0 (SegmentOfPipe_v0 m ps vs a).length d0, .slice A1 (SegmentOfPipe_v1 m ps vs a).length d1, .bool (SegmentOfPipe_v2 m ps vs a)]) ∧ w'.ownsRow w.heap.size 3 1 (.slice A0 (SegmentOfPipe_v0 m ps vs a).length d0) (SegmentOfPipe_v0 m ps vs a).length (intsV (SegmentOfPipe_v0 m ps vs a)) ∧ w'.ownsRow w.heap.size 3 1 (.slice A1 (SegmentOfPipe_v1 m ps vs a).length d1) (SegmentOfPipe_v1 m ps vs a).length (intsV (SegmentOfPipe_v1 m ps vs a)) ∧ NbR (.slice A0 (SegmentOfPipe_v0 m ps vs a).length d0) (.slice A1 (SegmentOfPipe_v1 m ps vs a).length d1) ∧ Below w.heap.size w w' := by
  have hl := rd_pipes_len ha
  have hl2 := rd_valves_len hb
  have hfl := findL_lt ps a
  go_enter Try.func23, Try.ntmps23
  refine wp_seq_k (fun K1 h1 => ?_)
  refine W.region_plain (row := none) [(0, true), (1, false), (2, false), (3, false)] (by kernel_rfl) ?_
  have s1 := SG.self w none
  refine W.sn (fun b => .pointer (some ⟨b, 0, none⟩)) #[.int .i64 m, .slice A n c] 31 s1 rfl (by kernel_rfl) rfl (fun _ => by kernel_rfl) (fun b2 w3 hb4 k5 x6 s7 => ?_)
  have lo8 : w.heap.size ≤ b2 := by have := ((SG.belowR (Below.refl _ _) s1 (fun kq e => by cases e))).size; omega
  refine W.sq (v := .slice none 0 0) rfl (r_assign rfl (by kernel_rfl)) (by kernel_rfl) rfl rfl ?_
  refine W.sq (v := .slice none 0 0) rfl (r_assign rfl (by kernel_rfl)) (by kernel_rfl) rfl rfl ?_
  refine W.sq (v := .bool false) rfl (r_assign rfl (by kernel_rfl)) (by kernel_rfl) rfl rfl ?_
  refine W.sch_end (l' := [.agg #[.int .i64 m, .slice A n c], .slice A2 n2 c2, .int .i64 a, .pointer (some ⟨b2, 0, none⟩), undef, undef, .slice none 0 0, .slice none 0 0, .bool false, undef, undef, undef, undef, undef, undef, undef, undef, undef, undef, undef, undef, undef, undef, undef, undef, undef, undef, undef, undef, undef, undef, undef, undef, undef, undef]) (by kernel_rfl) ?_
  have c9 := (SG.belowR (Below.refl _ _) s7 (fun kq e => by cases e))
  refine h1 _ _ ?_
  refine wp_seq_k (fun K2 h2 => ?_)
  refine wp_seq_k (fun K3 h3 => ?_)
  refine W.region_plain (row := none) [(0, false), (1, false), (2, true), (3, false), (4, false), (5, false), (6, false), (7, true), (8, false), (9, false)] (by kernel_rfl) ?_
  have s10 := SG.self w3 none
  refine W.sq (v := .agg #[.int .i64 m, .slice A n c]) rfl (r_load2 rfl (by kernel_rfl) (by kernel_rfl) (by kernel_rfl) (sgS (blk_cell (j := 0) x6 (by kernel_rfl)) (by simp)) (sgS (blk_cell (j := 1) x6 (by kernel_rfl)) (by simp))) (by kernel_rfl) rfl rfl ?_
  refine W.sq (v := .slice A2 n2 c2) rfl (r_move rfl (by kernel_rfl)) (by kernel_rfl) rfl rfl ?_
  refine W.sc (vs := [.agg #[.int .i64 m, .slice A n c], .slice A2 n2 c2]) rfl rfl (by kernel_rfl) (by kernel_rfl) (by kernel_rfl) rfl (IsValidValves_any m A n c ps A2 n2 c2 vs _ (Rd.kept ha (SG.belowR c9 s10 (fun kq e => by cases e))) (Rd.kept hb (SG.belowR c9 s10 (fun kq e => by cases e))) (by omega) (by omega) hfm2) ?_
  rintro e w12 ⟨rfl, b11⟩
  have s13 := SG.of_below s10 b11
  refine ⟨_, rfl, s13, ?_⟩
  rcases Bool.eq_false_or_eq_true (goodV m ps vs) with q14 | q14
  · rw [q14]
    have hv9 := goodV_of q14
    have hg := hv9.net
    have hgl := hg.lo
    have hgh := hg.hi
    have hp := hg.pipesIn
    have hlen10 := hg.len
    have hu := hv9.uniq
    have hvl := hv9.len
    refine W.sq (v := .bool false) rfl (r_not (b := true) rfl (by kernel_rfl) rfl) (by kernel_rfl) rfl rfl ?_
    refine W.sq (v := .bool false) rfl (r_move rfl (by kernel_rfl)) (by kernel_rfl) rfl rfl ?_
    refine W.sq (v := .agg #[.int .i64 m, .slice A n c]) rfl (r_load2 rfl (by kernel_rfl) (by kernel_rfl) (by kernel_rfl) (sgS (blk_cell (j := 0) x6 (by kernel_rfl)) (by simp)) (sgS (blk_cell (j := 1) x6 (by kernel_rfl)) (by simp))) (by kernel_rfl) rfl rfl ?_
    refine W.sq (v := .int .i64 a) rfl (r_move rfl (by kernel_rfl)) (by kernel_rfl) rfl rfl ?_
    refine W.sc (vs := [.agg #[.int .i64 m, .slice A n c], .int .i64 a]) rfl rfl (by kernel_rfl) (by kernel_rfl) (by kernel_rfl) rfl (pipeIndex_any m A n c ps a _ (Rd.kept ha (SG.belowR c9 s13 (fun kq e => by cases e))) (by omega)) ?_
    rintro e w16 ⟨rfl, b15⟩
    have s17 := SG.of_below s13 b15
    refine ⟨_, rfl, s17, ?_⟩
    by_cases q18 : (findL ps a : Int) < (0 : Int)
    · refine W.sq (v := .bool true) rfl (r_lss (m := findL ps a) (n := 0) rfl (by kernel_rfl) (by kernel_rfl) (decide_eq_true q18)) (by kernel_rfl) rfl rfl ?_
      refine W.sq (v := .bool true) rfl (r_pick (b := false) rfl (by kernel_rfl) (by kernel_rfl)) (by kernel_rfl) rfl rfl ?_
      refine W.sch_endU (fun U19 => [.agg #[.int .i64 m, .slice A n c], .slice A2 n2 c2, .int .i64 a, .pointer (some ⟨b2, 0, none⟩), undef, undef, .slice none 0 0, .slice none 0 0, .bool false, undef, undef, U19 11, U19 12, U19 13, U19 14, U19 15, U19 16, U19 17, U19 18, U19 19, .bool true, undef, undef, undef, undef, undef, undef, undef, undef, undef, undef, undef, undef, undef, undef]) (by kernel_rfl) (fun U19 => ?_)
      have x6 := SG.blk s17 x6 (by simp)
      have c20 := (SG.belowR c9 s17 (fun kq e => by cases e))
      refine h3 _ _ ?_
      refine wp_cond_true (by kernel_rfl) ?_
      refine wp_seq_k (fun K4 h4 => ?_)
      refine W.region_quiet [(0, false), (1, false), (2, false)] (by kernel_rfl) ?_
      refine W.sq (v := .slice none 0 0) rfl (r_assign rfl (by kernel_rfl)) (by kernel_rfl) rfl rfl ?_
      refine W.sq (v := .slice none 0 0) rfl (r_assign rfl (by kernel_rfl)) (by kernel_rfl) rfl rfl ?_
      refine W.sq (v := .bool false) rfl (r_assign rfl (by kernel_rfl)) (by kernel_rfl) rfl rfl ?_
      refine W.sch_end (l' := [.agg #[.int .i64 m, .slice A n c], .slice A2 n2 c2, .int .i64 a, .pointer (some ⟨b2, 0, none⟩), undef, undef, .slice none 0 0, .slice none 0 0, .bool false, undef, undef, (U19 11), (U19 12), (U19 13), (U19 14), (U19 15), (U19 16), (U19 17), (U19 18), (U19 19), .bool true, undef, undef, undef, undef, undef, undef, undef, undef, undef, undef, undef, undef, undef, undef]) (by kernel_rfl) ?_
      refine h4 _ _ ?_
      refine wp_ret ?_
      try simp only [Exit.then]
      refine ret3 (v := .slice none 0 0) (x := .slice none 0 0) (y := .bool false) rfl (by kernel_rfl) (by kernel_rfl) (by kernel_rfl) ?_
      have ok21 : SegmentOfPipe_v2 m ps vs a = false := by unfold SegmentOfPipe_v2; rw [decide_eq_false (by omega), Bool.and_false]
      exact fin_ints2 (zs := []) (zs' := []) (World.ownsRow_nil _ _ _ _) (World.ownsRow_nil _ _ _ _) (by unfold SegmentOfPipe_v0; rw [if_neg (by rw [ok21]; simp)]) (by unfold SegmentOfPipe_v1; rw [if_neg (by rw [ok21]; simp)]) ok21.symm nbr_nil c20
    · refine W.sq (v := .bool false) rfl (r_lss (m := findL ps a) (n := 0) rfl (by kernel_rfl) (by kernel_rfl) (decide_eq_false q18)) (by kernel_rfl) rfl rfl ?_
      refine W.sq (v := .bool false) rfl (r_pick (b := false) rfl (by kernel_rfl) (by kernel_rfl)) (by kernel_rfl) rfl rfl ?_
      refine W.sch_endU (fun U22 => [.agg #[.int .i64 m, .slice A n c], .slice A2 n2 c2, .int .i64 a, .pointer (some ⟨b2, 0, none⟩), undef, undef, .slice none 0 0, .slice none 0 0, .bool false, undef, undef, U22 11, U22 12, U22 13, U22 14, U22 15, U22 16, U22 17, U22 18, U22 19, .bool false, undef, undef, undef, undef, undef, undef, undef, undef, undef, undef, undef, undef, undef, undef]) (by kernel_rfl) (fun U22 => ?_)
      have x6 := SG.blk s17 x6 (by simp)
      have c23 := (SG.belowR c9 s17 (fun kq e => by cases e))
      refine h3 _ _ ?_
      refine wp_cond_false (by kernel_rfl) ?_
      refine wp_skip ?_
      refine h2 _ _ ?_
      refine wp_seq_k (fun K5 h5 => ?_)
      refine W.region_sch (row := none) (Sch.of [(0, false), (1, false), (2, false), (3, false), (4, false), (5, true), (6, true), (7, true), (8, true), (9, false), (10, false), (11, false), (12, false), (13, false)]) (by kernel_rfl) (by kernel_rfl) (fun _ d _ _ _ h => by cases d <;> exact h) (by kernel_rfl) (fun w24 e25 s26 => ?_)
      refine W.sq (v := .agg #[.int .i64 m, .slice A n c]) rfl (r_load2 rfl (by kernel_rfl) (by kernel_rfl) (by kernel_rfl) (sgS (blk_cell (j := 0) x6 (by kernel_rfl)) (by simp)) (sgS (blk_cell (j := 1) x6 (by kernel_rfl)) (by simp))) (by kernel_rfl) rfl rfl ?_
      refine W.sq (v := .agg #[.int .i64 m, .slice A n c]) rfl (r_load2 rfl (by kernel_rfl) (by kernel_rfl) (by kernel_rfl) (sgS (blk_cell (j := 0) x6 (by kernel_rfl)) (by simp)) (sgS (blk_cell (j := 1) x6 (by kernel_rfl)) (by simp))) (by kernel_rfl) rfl rfl ?_
      refine W.sq (v := .slice A2 n2 c2) rfl (r_move rfl (by kernel_rfl)) (by kernel_rfl) rfl rfl ?_
      refine W.sq (v := .agg #[.int .i64 m, .slice A n c]) rfl (r_load2 rfl (by kernel_rfl) (by kernel_rfl) (by kernel_rfl) (sgS (blk_cell (j := 0) x6 (by kernel_rfl)) (by simp)) (sgS (blk_cell (j := 1) x6 (by kernel_rfl)) (by simp))) (by kernel_rfl) rfl rfl ?_
      refine W.sq (v := .int .i64 a) rfl (r_move rfl (by kernel_rfl)) (by kernel_rfl) rfl rfl ?_
      refine W.sc (vs := [.agg #[.int .i64 m, .slice A n c], .int .i64 a]) rfl rfl (by kernel_rfl) (by kernel_rfl) (by kernel_rfl) rfl (pipeIndex_any m A n c ps a _ (Rd.kept ha (SG.belowR c23 s26 (fun kq e => by cases e))) (by omega)) ?_
      rintro e w28 ⟨rfl, b27⟩
      have s29 := SG.of_below s26 b27
      refine ⟨_, rfl, s29, ?_⟩
      refine W.sc (vs := [.int .i64 (findL ps a)]) rfl rfl (by kernel_rfl) (by kernel_rfl) (by kernel_rfl) rfl (element_any (findL ps a) _ (by omega)) ?_
      rintro e w' ⟨rfl, rfl⟩
      refine ⟨_, rfl, s29, ?_⟩
      refine W.sc (vs := [.agg #[.int .i64 m, .slice A n c], .slice A2 n2 c2, .int .i64 (9 + (findL ps a))]) rfl rfl (by kernel_rfl) (by kernel_rfl) (by kernel_rfl) rfl (segmentOf_any m A n c ps A2 n2 c2 vs (9 + (findL ps a)) (9 + (findL ps a)).toNat _ (Rd.kept ha (SG.belowR c23 s29 (fun kq e => by cases e))) (Rd.kept hb (SG.belowR c23 s29 (fun kq e => by cases e))) (by omega) (by omega) hp (by omega) (by omega) (by omega) (by omega)) ?_
      rintro e w38 ⟨pb32, rfl, lo36, rd33, b37⟩
      have s39 := SG.of_below s29 b37
      refine ⟨_, rfl, s39, ?_⟩
      have hl34 := rd_bools_len rd33
      rw [wetL_len] at hl34
      have hl34 : (wetL (linked ps (openQ vs false)) (9 + (findL ps a))).length = 19 := wetL_len _ _
      have z51 := ((SG.belowR c23 s39 (fun kq e => by cases e))).size
      refine W.sc (vs := [.agg #[.int .i64 m, .slice A n c], .pointer (some ⟨pb32, 0, none⟩), .bool true]) rfl rfl (by kernel_rfl) (by kernel_rfl) (by kernel_rfl) rfl (nodesAndPipes_any m A n c ps pb32 true (linked ps (openQ vs false)) (9 + (findL ps a)) _ (Rd.kept ha (SG.belowR c23 s39 (fun kq e => by cases e))) (by omega) (by omega) (by omega) rd33) ?_
      rintro e w55 ⟨A40, n41, c42, A43, n44, c45, rfl, ho46, ho47, nr48, b54⟩
      have s56 := SG.of_below s39 b54
      refine ⟨_, rfl, s56, ?_⟩
      have rd57 := Rd.kept rd33 b54
      have ho49 := own_base (base' := w.heap.size) ho46 z51
      have hlr52 := rd_ints_len (own_rd ho49)
      have nb58 : Nb b2 (.slice A40 n41 c42) := nb_lo ho46 (Nat.lt_of_lt_of_le (blk_lt x6) (World.grownBy.size s39))
      have ho50 := own_base (base' := w.heap.size) ho47 z51
      have hlr53 := rd_ints_len (own_rd ho50)
      have nb59 : Nb b2 (.slice A43 n44 c45) := nb_lo ho47 (Nat.lt_of_lt_of_le (blk_lt x6) (World.grownBy.size s39))
      refine W.sq (v := .tuple #[.slice A40 n41 c42, .slice A43 n44 c45]) rfl (r_move rfl (by kernel_rfl)) (by kernel_rfl) rfl rfl ?_
      refine W.sq (v := .slice A40 n41 c42) rfl (r_extract (vs := #[.slice A40 n41 c42, .slice A43 n44 c45]) rfl (by kernel_rfl) (by kernel_rfl)) (by kernel_rfl) rfl rfl ?_
      refine W.sq (v := .slice A43 n44 c45) rfl (r_extract (vs := #[.slice A40 n41 c42, .slice A43 n44 c45]) rfl (by kernel_rfl) (by kernel_rfl)) (by kernel_rfl) rfl rfl ?_
      refine W.sq (v := .slice A40 n41 c42) rfl (r_assign rfl (by kernel_rfl)) (by kernel_rfl) rfl rfl ?_
      refine W.sq (v := .slice A43 n44 c45) rfl (r_assign rfl (by kernel_rfl)) (by kernel_rfl) rfl rfl ?_
      refine W.sch_endU (fun U60 => [.agg #[.int .i64 m, .slice A n c], .slice A2 n2 c2, .int .i64 a, .pointer (some ⟨b2, 0, none⟩), undef, undef, .slice none 0 0, .slice none 0 0, .bool false, .slice A40 n41 c42, .slice A43 n44 c45, (U22 11), (U22 12), (U22 13), (U22 14), (U22 15), (U22 16), (U22 17), (U22 18), (U22 19), .bool false, U60 21, U60 22, U60 23, U60 24, U60 25, U60 26, U60 27, U60 28, U60 29, U60 30, U60 31, U60 32, undef, undef]) (by kernel_rfl) (fun U60 => ?_)
      have x6 := SG.blk s56 x6 (by simp)
      have c61 := (SG.belowR c23 s56 (fun kq e => by cases e))
      refine h5 _ _ ?_
      refine wp_seq_k (fun K6 h6 => ?_)
      refine W.region_quiet [(0, false), (1, false), (2, false), (3, false), (4, false)] (by kernel_rfl) ?_
      refine W.sq (v := .slice A40 n41 c42) rfl (r_move rfl (by kernel_rfl)) (by kernel_rfl) rfl rfl ?_
      refine W.sq (v := .slice A43 n44 c45) rfl (r_move rfl (by kernel_rfl)) (by kernel_rfl) rfl rfl ?_
      refine W.sq (v := .slice A40 n41 c42) rfl (r_assign rfl (by kernel_rfl)) (by kernel_rfl) rfl rfl ?_
      refine W.sq (v := .slice A43 n44 c45) rfl (r_assign rfl (by kernel_rfl)) (by kernel_rfl) rfl rfl ?_
      refine W.sq (v := .bool true) rfl (r_assign rfl (by kernel_rfl)) (by kernel_rfl) rfl rfl ?_
      refine W.sch_endU (fun U62 => [.agg #[.int .i64 m, .slice A n c], .slice A2 n2 c2, .int .i64 a, .pointer (some ⟨b2, 0, none⟩), undef, undef, .slice A40 n41 c42, .slice A43 n44 c45, .bool true, .slice A40 n41 c42, .slice A43 n44 c45, (U22 11), (U22 12), (U22 13), (U22 14), (U22 15), (U22 16), (U22 17), (U22 18), (U22 19), .bool false, (U60 21), (U60 22), (U60 23), (U60 24), (U60 25), (U60 26), (U60 27), (U60 28), (U60 29), (U60 30), (U60 31), (U60 32), U62 33, U62 34]) (by kernel_rfl) (fun U62 => ?_)
      refine h6 _ _ ?_
      refine wp_ret ?_
      try simp only [Exit.then]
      refine ret3 (v := .slice A40 n41 c42) (x := .slice A43 n44 c45) (y := .bool true) rfl (by kernel_rfl) (by kernel_rfl) (by kernel_rfl) ?_
      have ok63 : SegmentOfPipe_v2 m ps vs a = true := by unfold SegmentOfPipe_v2; rw [q14, decide_eq_true (by omega)]; rfl
      exact fin_ints2  ho49 ho50 (by unfold SegmentOfPipe_v0; rw [if_pos ok63]) (by unfold SegmentOfPipe_v1; rw [if_pos ok63]) ok63.symm nr48 c61
  · rw [q14]
    refine W.sq (v := .bool true) rfl (r_not (b := false) rfl (by kernel_rfl) rfl) (by kernel_rfl) rfl rfl ?_
    refine W.sq (v := .bool true) rfl (r_move rfl (by kernel_rfl)) (by kernel_rfl) rfl rfl ?_
    refine W.sk s13 rfl (by kernel_rfl) rfl rfl ?_
    refine W.sk s13 rfl (by kernel_rfl) rfl rfl ?_
    refine W.sk s13 rfl (by kernel_rfl) rfl rfl ?_
    refine W.sk s13 rfl (by kernel_rfl) rfl rfl ?_
    refine W.sq (v := .bool true) rfl (r_pick (b := true) rfl (by kernel_rfl) (by kernel_rfl)) (by kernel_rfl) rfl rfl ?_
    refine W.sch_endU (fun U64 => [.agg #[.int .i64 m, .slice A n c], .slice A2 n2 c2, .int .i64 a, .pointer (some ⟨b2, 0, none⟩), undef, undef, .slice none 0 0, .slice none 0 0, .bool false, undef, undef, U64 11, U64 12, U64 13, U64 14, U64 15, undef, undef, undef, undef, .bool true, undef, undef, undef, undef, undef, undef, undef, undef, undef, undef, undef, undef, undef, undef]) (by kernel_rfl) (fun U64 => ?_)
    have x6 := SG.blk s13 x6 (by simp)
    have c65 := (SG.belowR c9 s13 (fun kq e => by cases e))
    refine h3 _ _ ?_
    refine wp_cond_true (by kernel_rfl) ?_
    refine wp_seq_k (fun K7 h7 => ?_)
    refine W.region_quiet [(0, false), (1, false), (2, false)] (by kernel_rfl) ?_
    refine W.sq (v := .slice none 0 0) rfl (r_assign rfl (by kernel_rfl)) (by kernel_rfl) rfl rfl ?_
    refine W.sq (v := .slice none 0 0) rfl (r_assign rfl (by kernel_rfl)) (by kernel_rfl) rfl rfl ?_
    refine W.sq (v := .bool false) rfl (r_assign rfl (by kernel_rfl)) (by kernel_rfl) rfl rfl ?_
    refine W.sch_end (l' := [.agg #[.int .i64 m, .slice A n c], .slice A2 n2 c2, .int .i64 a, .pointer (some ⟨b2, 0, none⟩), undef, undef, .slice none 0 0, .slice none 0 0, .bool false, undef, undef, (U64 11), (U64 12), (U64 13), (U64 14), (U64 15), undef, undef, undef, undef, .bool true, undef, undef, undef, undef, undef, undef, undef, undef, undef, undef, undef, undef, undef, undef]) (by kernel_rfl) ?_
    refine h7 _ _ ?_
    refine wp_ret ?_
    try simp only [Exit.then]
    refine ret3 (v := .slice none 0 0) (x := .slice none 0 0) (y := .bool false) rfl (by kernel_rfl) (by kernel_rfl) (by kernel_rfl) ?_
    have ok66 : SegmentOfPipe_v2 m ps vs a = false := by unfold SegmentOfPipe_v2; rw [q14]; rfl
    exact fin_ints2 (zs := []) (zs' := []) (World.ownsRow_nil _ _ _ _) (World.ownsRow_nil _ _ _ _) (by unfold SegmentOfPipe_v0; rw [if_neg (by rw [ok66]; simp)]) (by unfold SegmentOfPipe_v1; rw [if_neg (by rw [ok66]; simp)]) ok66.symm nbr_nil c65

def SegmentOfNode_v2 (m : Int) (ps : List Pp) (vs : List Vv) (a : Int) : Bool := goodV m ps vs && inB a 1 m
noncomputable def SegmentOfNode_v0 (m : Int) (ps : List Pp) (vs : List Vv) (a : Int) : List Int := if SegmentOfNode_v2 m ps vs a = true then nodesL (linked ps (openQ vs false)) m.toNat a true else []
theorem SegmentOfNode_len (m : Int) (ps : List Pp) (vs : List Vv) (a : Int) : (SegmentOfNode_v0 m ps vs a).length ≤ 1048576 := by
  unfold SegmentOfNode_v0
  split
  · rename_i h
    have hg : goodV m ps vs = true := by unfold SegmentOfNode_v2 at h; rw [Bool.and_eq_true] at h; exact h.1
    have hv := goodV_of hg
    have h1 := hv.net.hi
    have h2 := hv.net.len
    skip
    have := nodesL_len (linked ps (openQ vs false)) m.toNat a true
    omega
  · simp
noncomputable def SegmentOfNode_v1 (m : Int) (ps : List Pp) (vs : List Vv) (a : Int) : List Int := if SegmentOfNode_v2 m ps vs a = true then idsAt ps (idxL (linked ps (openQ vs false)) ps.length a true) else []
theorem SegmentOfNode_len1 (m : Int) (ps : List Pp) (vs : List Vv) (a : Int) : (SegmentOfNode_v1 m ps vs a).length ≤ 1048576 := by
  unfold SegmentOfNode_v1
  split
  · rename_i h
    have hg : goodV m ps vs = true := by unfold SegmentOfNode_v2 at h; rw [Bool.and_eq_true] at h; exact h.1
    have hv := goodV_of hg
    have h1 := hv.net.hi
    have h2 := hv.net.len
    rw [idsAt_len]
    have := idxL_len (linked ps (openQ vs false)) ps.length a true
    omega
  · simp

set_option maxRecDepth 100000 in
set_option maxHeartbeats 1000000 in
theorem SegmentOfNode_spec (m : Int) (A : Option Addr) (n c : Nat) (ps : List Pp) (A2 : Option Addr) (n2 c2 : Nat) (vs : List Vv) (a : Int) (w : World) (ha : Rd w 4 A n (pipesV ps)) (hb : Rd w 4 A2 n2 (valvesV vs)) (hn : n ≤ 1048576) (hn2 : n2 ≤ 1048576) (hfm : Fm A n c) (hfm2 : Fm A2 n2 c2) :
    Calls Try.prog 29 #[.agg #[.int .i64 m, .slice A n c], .slice A2 n2 c2, .int .i64 a] w fun e w' => ∃ A0 d0 A1 d1, e = .returned (.tuple #[.slice A0 (SegmentOfNode_v0 m ps vs a).length d0, .slice A1 (SegmentOfNode_v1 m ps vs a).length d1, .bool (SegmentOfNode_v2 m ps vs a)]) ∧ Rd w' 1 A0 (SegmentOfNode_v0 m ps vs a).length (intsV (SegmentOfNode_v0 m ps vs a)) ∧ Rd w' 1 A1 (SegmentOfNode_v1 m ps vs a).length (intsV (SegmentOfNode_v1 m ps vs a)) ∧ Below w.heap.size w w' := by
  have hl := rd_pipes_len ha
  have hl2 := rd_valves_len hb
  have hfl := findL_lt ps a
  go_enter Try.func29, Try.ntmps29
  refine wp_seq_k (fun K1 h1 => ?_)
  refine W.region_plain (row := none) [(0, true), (1, false), (2, false), (3, false)] (by kernel_rfl) ?_
  have s1 := SG.self w none
  refine W.sn (fun b => .pointer (some ⟨b, 0, none⟩)) #[.int .i64 m, .slice A n c] 31 s1 rfl (by kernel_rfl) rfl (fun _ => by kernel_rfl) (fun b2 w3 hb4 k5 x6 s7 => ?_)
  have lo8 : w.heap.size ≤ b2 := by have := ((SG.belowR (Below.refl _ _) s1 (fun kq e => by cases e))).size; omega
  refine W.sq (v := .slice none 0 0) rfl (r_assign rfl (by kernel_rfl)) (by kernel_rfl) rfl rfl ?_
  refine W.sq (v := .slice none 0 0) rfl (r_assign rfl (by kernel_rfl)) (by kernel_rfl) rfl rfl ?_
  refine W.sq (v := .bool false) rfl (r_assign rfl (by kernel_rfl)) (by kernel_rfl) rfl rfl ?_
  refine W.sch_end (l' := [.agg #[.int .i64 m, .slice A n c], .slice A2 n2 c2, .int .i64 a, .pointer (some ⟨b2, 0, none⟩), undef, undef, .slice none 0 0, .slice none 0 0, .bool false, undef, undef, undef, undef, undef, undef, undef, undef, undef, undef, undef, undef, undef, undef, undef, undef, undef, undef, undef, undef, undef, undef, undef, undef, undef, undef, undef]) (by kernel_rfl) ?_
  have c9 := (SG.belowR (Below.refl _ _) s7 (fun kq e => by cases e))
  refine h1 _ _ ?_
  refine wp_seq_k (fun K2 h2 => ?_)
  refine wp_seq_k (fun K3 h3 => ?_)
  refine W.region_plain (row := none) [(0, false), (1, false), (2, true), (3, false), (4, false), (5, false), (6, false), (7, true), (8, false), (9, false)] (by kernel_rfl) ?_
  have s10 := SG.self w3 none
  refine W.sq (v := .agg #[.int .i64 m, .slice A n c]) rfl (r_load2 rfl (by kernel_rfl) (by kernel_rfl) (by kernel_rfl) (sgS (blk_cell (j := 0) x6 (by kernel_rfl)) (by simp)) (sgS (blk_cell (j := 1) x6 (by kernel_rfl)) (by simp))) (by kernel_rfl) rfl rfl ?_
  refine W.sq (v := .slice A2 n2 c2) rfl (r_move rfl (by kernel_rfl)) (by kernel_rfl) rfl rfl ?_
  refine W.sc (vs := [.agg #[.int .i64 m, .slice A n c], .slice A2 n2 c2]) rfl rfl (by kernel_rfl) (by kernel_rfl) (by kernel_rfl) rfl (l4Good_any m A n c ps A2 n2 c2 vs _ (Rd.kept ha (SG.belowR c9 s10 (fun kq e => by cases e))) (Rd.kept hb (SG.belowR c9 s10 (fun kq e => by cases e))) (by omega) (by omega)) ?_
  rintro e w12 ⟨rfl, b11⟩
  have s13 := SG.of_below s10 b11
  refine ⟨_, rfl, s13, ?_⟩
  rcases Bool.eq_false_or_eq_true (goodV m ps vs) with q14 | q14
  · rw [q14]
    have hv9 := goodV_of q14
    have hg := hv9.net
    have hgl := hg.lo
    have hgh := hg.hi
    have hp := hg.pipesIn
    have hlen10 := hg.len
    have hu := hv9.uniq
    have hvl := hv9.len
    refine W.sq (v := .bool false) rfl (r_not (b := true) rfl (by kernel_rfl) rfl) (by kernel_rfl) rfl rfl ?_
    refine W.sq (v := .bool false) rfl (r_move rfl (by kernel_rfl)) (by kernel_rfl) rfl rfl ?_
    refine W.sq (v := .agg #[.int .i64 m, .slice A n c]) rfl (r_load2 rfl (by kernel_rfl) (by kernel_rfl) (by kernel_rfl) (sgS (blk_cell (j := 0) x6 (by kernel_rfl)) (by simp)) (sgS (blk_cell (j := 1) x6 (by kernel_rfl)) (by simp))) (by kernel_rfl) rfl rfl ?_
    refine W.sq (v := .int .i64 a) rfl (r_move rfl (by kernel_rfl)) (by kernel_rfl) rfl rfl ?_
    refine W.sc (vs := [.agg #[.int .i64 m, .slice A n c], .int .i64 a]) rfl rfl (by kernel_rfl) (by kernel_rfl) (by kernel_rfl) rfl (l2Node_any m A n c ps a _ (Rd.kept ha (SG.belowR c9 s13 (fun kq e => by cases e))) (by omega)) ?_
    rintro e w16 ⟨rfl, b15⟩
    have s17 := SG.of_below s13 b15
    refine ⟨_, rfl, s17, ?_⟩
    rcases Bool.eq_false_or_eq_true (goodN m ps && inB a 1 m) with q18 | q18
    · rw [q18]
      have q19 : inB a 1 m = true := (Bool.and_eq_true_iff.1 q18).2
      have ha9 := inB_iff.1 q19
      refine W.sq (v := .bool false) rfl (r_not (b := true) rfl (by kernel_rfl) rfl) (by kernel_rfl) rfl rfl ?_
      refine W.sq (v := .bool false) rfl (r_pick (b := false) rfl (by kernel_rfl) (by kernel_rfl)) (by kernel_rfl) rfl rfl ?_
      refine W.sch_endU (fun U20 => [.agg #[.int .i64 m, .slice A n c], .slice A2 n2 c2, .int .i64 a, .pointer (some ⟨b2, 0, none⟩), undef, undef, .slice none 0 0, .slice none 0 0, .bool false, undef, undef, U20 11, U20 12, U20 13, U20 14, U20 15, U20 16, U20 17, U20 18, U20 19, .bool false, undef, undef, undef, undef, undef, undef, undef, undef, undef, undef, undef, undef, undef, undef, undef]) (by kernel_rfl) (fun U20 => ?_)
      have x6 := SG.blk s17 x6 (by simp)
      have c21 := (SG.belowR c9 s17 (fun kq e => by cases e))
      refine h3 _ _ ?_
      refine wp_cond_false (by kernel_rfl) ?_
      refine wp_skip ?_
      refine h2 _ _ ?_
      refine wp_seq_k (fun K4 h4 => ?_)
      refine W.region_plain (row := none) [(0, false), (1, false), (2, false), (3, true), (4, true), (5, true), (6, false), (7, false), (8, false), (9, false), (10, false)] (by kernel_rfl) ?_
      have s22 := SG.self w16 none
      refine W.sq (v := .agg #[.int .i64 m, .slice A n c]) rfl (r_load2 rfl (by kernel_rfl) (by kernel_rfl) (by kernel_rfl) (sgS (blk_cell (j := 0) x6 (by kernel_rfl)) (by simp)) (sgS (blk_cell (j := 1) x6 (by kernel_rfl)) (by simp))) (by kernel_rfl) rfl rfl ?_
      refine W.sq (v := .slice A2 n2 c2) rfl (r_move rfl (by kernel_rfl)) (by kernel_rfl) rfl rfl ?_
      refine W.sq (v := .int .i64 a) rfl (r_move rfl (by kernel_rfl)) (by kernel_rfl) rfl rfl ?_
      refine W.sn (fun b => .slice (some ⟨b, 0, none⟩) 1 1) #[.int .i64 a] 3 s22 rfl (by kernel_rfl) rfl (fun _ => by kernel_rfl) (fun b23 w24 hb25 k26 x27 s28 => ?_)
      have lo29 : w.heap.size ≤ b23 := by have := ((SG.belowR c21 s22 (fun kq e => by cases e))).size; omega
      have ne30 : b2 ≠ b23 := by have := blk_lt x6; have := World.grownBy.size s22; omega
      refine W.sn (fun b => .slice (some ⟨b, 0, none⟩) 0 0) #[] 3 s28 rfl (by kernel_rfl) rfl (fun _ => by kernel_rfl) (fun b31 w32 hb33 k34 x35 s36 => ?_)
      have lo37 : w.heap.size ≤ b31 := by have := ((SG.belowR c21 s28 (fun kq e => by cases e))).size; omega
      have ne38 : b2 ≠ b31 := by have := blk_lt x6; have := World.grownBy.size s28; omega
      have ne39 : b23 ≠ b31 := by have := blk_lt x27; omega
      have x27 := (k34.block _ (blk_lt x27)).trans x27
      have ho40 := own_blk (base := w.heap.size) (size := 1) (n := 1) x27 lo29 rfl (by omega)
      replace ho40 : World.ownsRow _ _ _ _ _ _ (intsV [a]) := ho40
      have nb41 : Nb b2 (.slice (some ⟨b23, 0, none⟩) 1 1) := nb_new (by have := ne30; omega)
      have nb42 : Nb b31 (.slice (some ⟨b23, 0, none⟩) 1 1) := nb_new (by have := ne39; omega)
      have rd44 := own_rd ho40
      have hl45 := rd_ints_len rd44
      have ho46 := own_empty (base := w.heap.size) (size := 1) x35 lo37
      replace ho46 : World.ownsRow _ _ _ _ _ _ (intsV []) := ho46
      have nb47 : Nb b2 (.slice (some ⟨b31, 0, none⟩) 0 0) := nb_new (by have := ne38; omega)
      have rd49 := own_rd ho46
      have hl50 := rd_ints_len rd49
      refine W.sc (vs := [.agg #[.int .i64 m, .slice A n c], .slice A2 n2 c2, .bool false, .slice (some ⟨b23, 0, none⟩) 1 1, .slice (some ⟨b31, 0, none⟩) 0 0]) rfl rfl (by kernel_rfl) (by kernel_rfl) (by kernel_rfl) rfl (l4Spread_false m A n c ps A2 n2 c2 vs (a) (some ⟨b23, 0, none⟩) 1 1 ([a]) (some ⟨b31, 0, none⟩) 0 0 ([]) _ (Rd.kept ha (SG.belowR c21 s36 (fun kq e => by cases e))) (Rd.kept hb (SG.belowR c21 s36 (fun kq e => by cases e))) (by omega) (by omega) hp (by omega) (by omega) rd44 (own_fm ho40) rd49 (own_fm ho46) (FndQ.startN _ (by omega))) ?_
      rintro e w66 ⟨A51, n52, c53, A54, n55, c56, rfl, rd57, fm58, rd59, fm60, b65⟩
      have s67 := SG.of_below s36 b65
      refine ⟨_, rfl, s67, ?_⟩
      have rd68 := Rd.kept rd44 b65
      have rd69 := Rd.kept rd49 b65
      have hl63 := rd_ints_len rd57
      have hl64 := rd_ints_len rd59
      have := nodesL_len (linked ps (openQ vs false)) m.toNat (a) true
      have := idxL_len (linked ps (openQ vs false)) ps.length (a) true
      refine W.sq (v := .tuple #[.slice A51 n52 c53, .slice A54 n55 c56]) rfl (r_move rfl (by kernel_rfl)) (by kernel_rfl) rfl rfl ?_
      refine W.sq (v := .slice A51 n52 c53) rfl (r_extract (vs := #[.slice A51 n52 c53, .slice A54 n55 c56]) rfl (by kernel_rfl) (by kernel_rfl)) (by kernel_rfl) rfl rfl ?_
      refine W.sq (v := .slice A54 n55 c56) rfl (r_extract (vs := #[.slice A51 n52 c53, .slice A54 n55 c56]) rfl (by kernel_rfl) (by kernel_rfl)) (by kernel_rfl) rfl rfl ?_
      refine W.sq (v := .slice A51 n52 c53) rfl (r_assign rfl (by kernel_rfl)) (by kernel_rfl) rfl rfl ?_
      refine W.sq (v := .slice A54 n55 c56) rfl (r_assign rfl (by kernel_rfl)) (by kernel_rfl) rfl rfl ?_
      refine W.sch_endU (fun U70 => [.agg #[.int .i64 m, .slice A n c], .slice A2 n2 c2, .int .i64 a, .pointer (some ⟨b2, 0, none⟩), undef, undef, .slice none 0 0, .slice none 0 0, .bool false, .slice A51 n52 c53, .slice A54 n55 c56, (U20 11), (U20 12), (U20 13), (U20 14), (U20 15), (U20 16), (U20 17), (U20 18), (U20 19), .bool false, undef, undef, U70 23, U70 24, U70 25, U70 26, U70 27, U70 28, U70 29, U70 30, U70 31, undef, undef, undef, undef]) (by kernel_rfl) (fun U70 => ?_)
      have x6 := SG.blk s67 x6 (by simp)
      have c71 := (SG.belowR c21 s67 (fun kq e => by cases e))
      refine h4 _ _ ?_
      refine wp_seq_k (fun K5 h5 => ?_)
      refine W.region_plain (row := none) [(0, false), (1, false), (2, false), (3, true), (4, false), (5, false), (6, false)] (by kernel_rfl) ?_
      have s72 := SG.self w66 none
      refine W.sq (v := .slice A51 n52 c53) rfl (r_move rfl (by kernel_rfl)) (by kernel_rfl) rfl rfl ?_
      refine W.sq (v := .agg #[.int .i64 m, .slice A n c]) rfl (r_load2 rfl (by kernel_rfl) (by kernel_rfl) (by kernel_rfl) (sgS (blk_cell (j := 0) x6 (by kernel_rfl)) (by simp)) (sgS (blk_cell (j := 1) x6 (by kernel_rfl)) (by simp))) (by kernel_rfl) rfl rfl ?_
      refine W.sq (v := .slice A54 n55 c56) rfl (r_move rfl (by kernel_rfl)) (by kernel_rfl) rfl rfl ?_
      refine W.sc (vs := [.agg #[.int .i64 m, .slice A n c], .slice A54 n55 c56]) rfl rfl (by kernel_rfl) (by kernel_rfl) (by kernel_rfl) rfl (l4Ids_any m A n c ps A54 n55 c56 (idxL (linked ps (openQ vs false)) ps.length (a) true) _ (Rd.kept ha (SG.belowR c71 s72 (fun kq e => by cases e))) (by omega) (Rd.kept rd59 (SG.below s72)) (by omega) (fun y hy => (mem_idxL.1 hy).1)) ?_
      rintro e w81 ⟨A73, n74, c75, rfl, rd76, fm77, b80⟩
      have s82 := SG.of_below s72 b80
      refine ⟨_, rfl, s82, ?_⟩
      have hl78 := rd_ints_len rd76
      refine W.sq (v := .slice A51 n52 c53) rfl (r_assign rfl (by kernel_rfl)) (by kernel_rfl) rfl rfl ?_
      refine W.sq (v := .slice A73 n74 c75) rfl (r_assign rfl (by kernel_rfl)) (by kernel_rfl) rfl rfl ?_
      refine W.sq (v := .bool true) rfl (r_assign rfl (by kernel_rfl)) (by kernel_rfl) rfl rfl ?_
      refine W.sch_endU (fun U83 => [.agg #[.int .i64 m, .slice A n c], .slice A2 n2 c2, .int .i64 a, .pointer (some ⟨b2, 0, none⟩), undef, undef, .slice A51 n52 c53, .slice A73 n74 c75, .bool true, .slice A51 n52 c53, .slice A54 n55 c56, (U20 11), (U20 12), (U20 13), (U20 14), (U20 15), (U20 16), (U20 17), (U20 18), (U20 19), .bool false, undef, undef, (U70 23), (U70 24), (U70 25), (U70 26), (U70 27), (U70 28), (U70 29), (U70 30), (U70 31), U83 32, U83 33, U83 34, U83 35]) (by kernel_rfl) (fun U83 => ?_)
      have x6 := SG.blk s82 x6 (by simp)
      have c84 := (SG.belowR c71 s82 (fun kq e => by cases e))
      have rd85 := Rd.kept rd68 (SG.below s82)
      have rd86 := Rd.kept rd69 (SG.below s82)
      have rd87 := Rd.kept rd57 (SG.below s82)
      have rd88 := Rd.kept rd59 (SG.below s82)
      refine h5 _ _ ?_
      refine wp_ret ?_
      try simp only [Exit.then]
      refine ret3 (v := .slice A51 n52 c53) (x := .slice A73 n74 c75) (y := .bool true) rfl (by kernel_rfl) (by kernel_rfl) (by kernel_rfl) ?_
      have ok89 : SegmentOfNode_v2 m ps vs a = true := by unfold SegmentOfNode_v2; rw [q14, q19]; rfl
      exact fin_rd2  rd87 rd76 (by unfold SegmentOfNode_v0; rw [if_pos ok89]) (by unfold SegmentOfNode_v1; rw [if_pos ok89]) ok89.symm c84
    · rw [q18]
      have q90 : inB a 1 m = false := by have h9 := q18; rw [hv9.good, Bool.true_and] at h9; exact h9
      refine W.sq (v := .bool true) rfl (r_not (b := false) rfl (by kernel_rfl) rfl) (by kernel_rfl) rfl rfl ?_
      refine W.sq (v := .bool true) rfl (r_pick (b := false) rfl (by kernel_rfl) (by kernel_rfl)) (by kernel_rfl) rfl rfl ?_
      refine W.sch_endU (fun U91 => [.agg #[.int .i64 m, .slice A n c], .slice A2 n2 c2, .int .i64 a, .pointer (some ⟨b2, 0, none⟩), undef, undef, .slice none 0 0, .slice none 0 0, .bool false, undef, undef, U91 11, U91 12, U91 13, U91 14, U91 15, U91 16, U91 17, U91 18, U91 19, .bool true, undef, undef, undef, undef, undef, undef, undef, undef, undef, undef, undef, undef, undef, undef, undef]) (by kernel_rfl) (fun U91 => ?_)
      have x6 := SG.blk s17 x6 (by simp)
      have c92 := (SG.belowR c9 s17 (fun kq e => by cases e))
      refine h3 _ _ ?_
      refine wp_cond_true (by kernel_rfl) ?_
      refine wp_seq_k (fun K6 h6 => ?_)
      refine W.region_plain (row := none) [(0, true), (1, true), (2, false), (3, false), (4, false)] (by kernel_rfl) ?_
      have s93 := SG.self w16 none
      refine W.sn (fun b => .slice (some ⟨b, 0, none⟩) 0 0) #[] 3 s93 rfl (by kernel_rfl) rfl (fun _ => by kernel_rfl) (fun b94 w95 hb96 k97 x98 s99 => ?_)
      have lo100 : w.heap.size ≤ b94 := by have := ((SG.belowR c92 s93 (fun kq e => by cases e))).size; omega
      have ne101 : b2 ≠ b94 := by have := blk_lt x6; have := World.grownBy.size s93; omega
      refine W.sn (fun b => .slice (some ⟨b, 0, none⟩) 0 0) #[] 3 s99 rfl (by kernel_rfl) rfl (fun _ => by kernel_rfl) (fun b102 w103 hb104 k105 x106 s107 => ?_)
      have lo108 : w.heap.size ≤ b102 := by have := ((SG.belowR c92 s99 (fun kq e => by cases e))).size; omega
      have ne109 : b2 ≠ b102 := by have := blk_lt x6; have := World.grownBy.size s99; omega
      have ne110 : b94 ≠ b102 := by have := blk_lt x98; omega
      have x98 := (k105.block _ (blk_lt x98)).trans x98
      refine W.sq (v := .slice (some ⟨b94, 0, none⟩) 0 0) rfl (r_assign rfl (by kernel_rfl)) (by kernel_rfl) rfl rfl ?_
      refine W.sq (v := .slice (some ⟨b102, 0, none⟩) 0 0) rfl (r_assign rfl (by kernel_rfl)) (by kernel_rfl) rfl rfl ?_
      refine W.sq (v := .bool false) rfl (r_assign rfl (by kernel_rfl)) (by kernel_rfl) rfl rfl ?_
      refine W.sch_endU (fun U111 => [.agg #[.int .i64 m, .slice A n c], .slice A2 n2 c2, .int .i64 a, .pointer (some ⟨b2, 0, none⟩), undef, undef, .slice (some ⟨b94, 0, none⟩) 0 0, .slice (some ⟨b102, 0, none⟩) 0 0, .bool false, undef, undef, (U91 11), (U91 12), (U91 13), (U91 14), (U91 15), (U91 16), (U91 17), (U91 18), (U91 19), .bool true, U111 21, U111 22, undef, undef, undef, undef, undef, undef, undef, undef, undef, undef, undef, undef, undef]) (by kernel_rfl) (fun U111 => ?_)
      have x6 := SG.blk s107 x6 (by simp)
      have c112 := (SG.belowR c92 s107 (fun kq e => by cases e))
      refine h6 _ _ ?_
      refine wp_ret ?_
      try simp only [Exit.then]
      refine ret3 (v := .slice (some ⟨b94, 0, none⟩) 0 0) (x := .slice (some ⟨b102, 0, none⟩) 0 0) (y := .bool false) rfl (by kernel_rfl) (by kernel_rfl) (by kernel_rfl) ?_
      have ok113 : SegmentOfNode_v2 m ps vs a = false := by unfold SegmentOfNode_v2; rw [q90, Bool.and_false]
      have ho114 := own_empty (base := w.heap.size) (size := 1) x98 lo100
      replace ho114 : World.ownsRow _ _ _ _ _ _ (intsV []) := ho114
      have nb115 : Nb b2 (.slice (some ⟨b94, 0, none⟩) 0 0) := nb_new (by have := ne101; omega)
      have nb116 : Nb b102 (.slice (some ⟨b94, 0, none⟩) 0 0) := nb_new (by have := ne110; omega)
      have ho117 := own_empty (base := w.heap.size) (size := 1) x106 lo108
      replace ho117 : World.ownsRow _ _ _ _ _ _ (intsV []) := ho117
      have nr118 : NbR (.slice (some ⟨b102, 0, none⟩) 0 0) (.slice (some ⟨b94, 0, none⟩) 0 0) := nbr_new nb116
      have nb119 : Nb b2 (.slice (some ⟨b102, 0, none⟩) 0 0) := nb_new (by have := ne109; omega)
      exact fin_rd2 (zs := []) (zs' := []) (own_rd ho114) (own_rd ho117) (by unfold SegmentOfNode_v0; rw [if_neg (by rw [ok113]; simp)]) (by unfold SegmentOfNode_v1; rw [if_neg (by rw [ok113]; simp)]) ok113.symm c112
  · rw [q14]
    refine W.sq (v := .bool true) rfl (r_not (b := false) rfl (by kernel_rfl) rfl) (by kernel_rfl) rfl rfl ?_
    refine W.sq (v := .bool true) rfl (r_move rfl (by kernel_rfl)) (by kernel_rfl) rfl rfl ?_
    refine W.sk s13 rfl (by kernel_rfl) rfl rfl ?_
    refine W.sk s13 rfl (by kernel_rfl) rfl rfl ?_
    refine W.sk s13 rfl (by kernel_rfl) rfl rfl ?_
    refine W.sk s13 rfl (by kernel_rfl) rfl rfl ?_
    refine W.sq (v := .bool true) rfl (r_pick (b := true) rfl (by kernel_rfl) (by kernel_rfl)) (by kernel_rfl) rfl rfl ?_
    refine W.sch_endU (fun U120 => [.agg #[.int .i64 m, .slice A n c], .slice A2 n2 c2, .int .i64 a, .pointer (some ⟨b2, 0, none⟩), undef, undef, .slice none 0 0, .slice none 0 0, .bool false, undef, undef, U120 11, U120 12, U120 13, U120 14, U120 15, undef, undef, undef, undef, .bool true, undef, undef, undef, undef, undef, undef, undef, undef, undef, undef, undef, undef, undef, undef, undef]) (by kernel_rfl) (fun U120 => ?_)
    have x6 := SG.blk s13 x6 (by simp)
    have c121 := (SG.belowR c9 s13 (fun kq e => by cases e))
    refine h3 _ _ ?_
    refine wp_cond_true (by kernel_rfl) ?_
    refine wp_seq_k (fun K7 h7 => ?_)
    refine W.region_plain (row := none) [(0, true), (1, true), (2, false), (3, false), (4, false)] (by kernel_rfl) ?_
    have s122 := SG.self w12 none
    refine W.sn (fun b => .slice (some ⟨b, 0, none⟩) 0 0) #[] 3 s122 rfl (by kernel_rfl) rfl (fun _ => by kernel_rfl) (fun b123 w124 hb125 k126 x127 s128 => ?_)
    have lo129 : w.heap.size ≤ b123 := by have := ((SG.belowR c121 s122 (fun kq e => by cases e))).size; omega
    have ne130 : b2 ≠ b123 := by have := blk_lt x6; have := World.grownBy.size s122; omega
    refine W.sn (fun b => .slice (some ⟨b, 0, none⟩) 0 0) #[] 3 s128 rfl (by kernel_rfl) rfl (fun _ => by kernel_rfl) (fun b131 w132 hb133 k134 x135 s136 => ?_)
    have lo137 : w.heap.size ≤ b131 := by have := ((SG.belowR c121 s128 (fun kq e => by cases e))).size; omega
    have ne138 : b2 ≠ b131 := by have := blk_lt x6; have := World.grownBy.size s128; omega
    have ne139 : b123 ≠ b131 := by have := blk_lt x127; omega
    have x127 := (k134.block _ (blk_lt x127)).trans x127
    refine W.sq (v := .slice (some ⟨b123, 0, none⟩) 0 0) rfl (r_assign rfl (by kernel_rfl)) (by kernel_rfl) rfl rfl ?_
    refine W.sq (v := .slice (some ⟨b131, 0, none⟩) 0 0) rfl (r_assign rfl (by kernel_rfl)) (by kernel_rfl) rfl rfl ?_
    refine W.sq (v := .bool false) rfl (r_assign rfl (by kernel_rfl)) (by kernel_rfl) rfl rfl ?_
    refine W.sch_endU (fun U140 => [.agg #[.int .i64 m, .slice A n c], .slice A2 n2 c2, .int .i64 a, .pointer (some ⟨b2, 0, none⟩), undef, undef, .slice (some ⟨b123, 0, none⟩) 0 0, .slice (some ⟨b131, 0, none⟩) 0 0, .bool false, undef, undef, (U120 11), (U120 12), (U120 13), (U120 14), (U120 15), undef, undef, undef, undef, .bool true, U140 21, U140 22, undef, undef, undef, undef, undef, undef, undef, undef, undef, undef, undef, undef, undef]) (by kernel_rfl) (fun U140 => ?_)
    have x6 := SG.blk s136 x6 (by simp)
    have c141 := (SG.belowR c121 s136 (fun kq e => by cases e))
    refine h7 _ _ ?_
    refine wp_ret ?_
    try simp only [Exit.then]
    refine ret3 (v := .slice (some ⟨b123, 0, none⟩) 0 0) (x := .slice (some ⟨b131, 0, none⟩) 0 0) (y := .bool false) rfl (by kernel_rfl) (by kernel_rfl) (by kernel_rfl) ?_
    have ok142 : SegmentOfNode_v2 m ps vs a = false := by unfold SegmentOfNode_v2; rw [q14]; rfl
    have ho143 := own_empty (base := w.heap.size) (size := 1) x127 lo129
    replace ho143 : World.ownsRow _ _ _ _ _ _ (intsV []) := ho143
    have nb144 : Nb b2 (.slice (some ⟨b123, 0, none⟩) 0 0) := nb_new (by have := ne130; omega)
    have nb145 : Nb b131 (.slice (some ⟨b123, 0, none⟩) 0 0) := nb_new (by have := ne139; omega)
    have ho146 := own_empty (base := w.heap.size) (size := 1) x135 lo137
    replace ho146 : World.ownsRow _ _ _ _ _ _ (intsV []) := ho146
    have nr147 : NbR (.slice (some ⟨b131, 0, none⟩) 0 0) (.slice (some ⟨b123, 0, none⟩) 0 0) := nbr_new nb145
    have nb148 : Nb b2 (.slice (some ⟨b131, 0, none⟩) 0 0) := nb_new (by have := ne138; omega)
    exact fin_rd2 (zs := []) (zs' := []) (own_rd ho143) (own_rd ho146) (by unfold SegmentOfNode_v0; rw [if_neg (by rw [ok142]; simp)]) (by unfold SegmentOfNode_v1; rw [if_neg (by rw [ok142]; simp)]) ok142.symm c141

set_option maxRecDepth 100000 in
set_option maxHeartbeats 1000000 in
theorem SegmentOfNode_impl (m : Int) (A : Option Addr) (n c : Nat) (ps : List Pp) (A2 : Option Addr) (n2 c2 : Nat) (vs : List Vv) (a : Int) (w : World) (ha : Rd w 4 A n (pipesV ps)) (hb : Rd w 4 A2 n2 (valvesV vs)) (hn : n ≤ 1048576) (hn2 : n2 ≤ 1048576) (hfm : Fm A n c) (hfm2 : Fm A2 n2 c2) :
    Calls Try.prog 30 #[.agg #[.int .i64 m, .slice A n c], .slice A2 n2 c2, .int .i64 a] w fun e w' => ∃ A0 d0 A1 d1, e = .returned (.tuple #[.slice A0 (SegmentOfNode_v0 m ps vs a).length d0, .slice A1 (SegmentOfNode_v1 m ps vs a).length d1, .bool (SegmentOfNode_v2 m ps vs a)]) ∧ w'.ownsRow w.heap.size 3 1 (.slice A0 (SegmentOfNode_v0 m ps vs a).length d0) (SegmentOfNode_v0 m ps vs a).length (intsV (SegmentOfNode_v0 m ps vs a)) ∧ w'.ownsRow w.heap.size 3 1 (.slice A1 (SegmentOfNode_v1 m ps vs a).length d1) (SegmentOfNode_v1 m ps vs a).length (intsV (SegmentOfNode_v1 m ps vs a)) ∧ NbR (.slice A0 (SegmentOfNode_v0 m ps vs a).length d0) (.slice A1 (SegmentOfNode_v1 m ps vs a).length d1) ∧ Below w.heap.size w w' := by
  have hl := rd_pipes_len ha
  have hl2 := rd_valves_len hb
  have hfl := findL_lt ps a
  go_enter Try.func30, Try.ntmps30
  refine wp_seq_k (fun K1 h1 => ?_)
  refine W.region_plain (row := none) [(0, true), (1, false), (2, false), (3, false)] (by kernel_rfl) ?_
  have s1 := SG.self w none
  refine W.sn (fun b => .pointer (some ⟨b, 0, none⟩)) #[.int .i64 m, .slice A n c] 31 s1 rfl (by kernel_rfl) rfl (fun _ => by kernel_rfl) (fun b2 w3 hb4 k5 x6 s7 => ?_)
  have lo8 : w.heap.size ≤ b2 := by have := ((SG.belowR (Below.refl _ _) s1 (fun kq e => by cases e))).size; omega
  refine W.sq (v := .slice none 0 0) rfl (r_assign rfl (by kernel_rfl)) (by kernel_rfl) rfl rfl ?_
  refine W.sq (v := .slice none 0 0) rfl (r_assign rfl (by kernel_rfl)) (by kernel_rfl) rfl rfl ?_
  refine W.sq (v := .bool false) rfl (r_assign rfl (by kernel_rfl)) (by kernel_rfl) rfl rfl ?_
  refine W.sch_end (l' := [.agg #[.int .i64 m, .slice A n c], .slice A2 n2 c2, .int .i64 a, .pointer (some ⟨b2, 0, none⟩), undef, undef, .slice none 0 0, .slice none 0 0, .bool false, undef, undef, undef, undef, undef, undef, undef, undef, undef, undef, undef, undef, undef, undef, undef, undef, undef, undef, undef, undef, undef, undef, undef]) (by kernel_rfl) ?_
  have c9 := (SG.belowR (Below.refl _ _) s7 (fun kq e => by cases e))
  refine h1 _ _ ?_
  refine wp_seq_k (fun K2 h2 => ?_)
  refine wp_seq_k (fun K3 h3 => ?_)
  refine W.region_plain (row := none) [(0, false), (1, false), (2, true), (3, false), (4, false), (5, false), (6, false), (7, true), (8, false), (9, false)] (by kernel_rfl) ?_
  have s10 := SG.self w3 none
  refine W.sq (v := .agg #[.int .i64 m, .slice A n c]) rfl (r_load2 rfl (by kernel_rfl) (by kernel_rfl) (by kernel_rfl) (sgS (blk_cell (j := 0) x6 (by kernel_rfl)) (by simp)) (sgS (blk_cell (j := 1) x6 (by kernel_rfl)) (by simp))) (by kernel_rfl) rfl rfl ?_
  refine W.sq (v := .slice A2 n2 c2) rfl (r_move rfl (by kernel_rfl)) (by kernel_rfl) rfl rfl ?_
  refine W.sc (vs := [.agg #[.int .i64 m, .slice A n c], .slice A2 n2 c2]) rfl rfl (by kernel_rfl) (by kernel_rfl) (by kernel_rfl) rfl (IsValidValves_any m A n c ps A2 n2 c2 vs _ (Rd.kept ha (SG.belowR c9 s10 (fun kq e => by cases e))) (Rd.kept hb (SG.belowR c9 s10 (fun kq e => by cases e))) (by omega) (by omega) hfm2) ?_
  rintro e w12 ⟨rfl, b11⟩
  have s13 := SG.of_below s10 b11
  refine ⟨_, rfl, s13, ?_⟩
  rcases Bool.eq_false_or_eq_true (goodV m ps vs) with q14 | q14
  · rw [q14]
    have hv9 := goodV_of q14
    have hg := hv9.net
    have hgl := hg.lo
    have hgh := hg.hi
    have hp := hg.pipesIn
    have hlen10 := hg.len
    have hu := hv9.uniq
    have hvl := hv9.len
    refine W.sq (v := .bool false) rfl (r_not (b := true) rfl (by kernel_rfl) rfl) (by kernel_rfl) rfl rfl ?_
    refine W.sq (v := .bool false) rfl (r_move rfl (by kernel_rfl)) (by kernel_rfl) rfl rfl ?_
    refine W.sq (v := .agg #[.int .i64 m, .slice A n c]) rfl (r_load2 rfl (by kernel_rfl) (by kernel_rfl) (by kernel_rfl) (sgS (blk_cell (j := 0) x6 (by kernel_rfl)) (by simp)) (sgS (blk_cell (j := 1) x6 (by kernel_rfl)) (by simp))) (by kernel_rfl) rfl rfl ?_
    refine W.sq (v := .int .i64 a) rfl (r_move rfl (by kernel_rfl)) (by kernel_rfl) rfl rfl ?_
    refine W.sc (vs := [.agg #[.int .i64 m, .slice A n c], .int .i64 a]) rfl rfl (by kernel_rfl) (by kernel_rfl) (by kernel_rfl) rfl (has_any m A n c ps a _) ?_
    rintro e w16 ⟨rfl, b15⟩
    have s17 := SG.of_below s13 b15
    refine ⟨_, rfl, s17, ?_⟩
    rcases Bool.eq_false_or_eq_true (inB a 1 m) with q18 | q18
    · rw [q18]
      have ha9 := inB_iff.1 q18
      refine W.sq (v := .bool false) rfl (r_not (b := true) rfl (by kernel_rfl) rfl) (by kernel_rfl) rfl rfl ?_
      refine W.sq (v := .bool false) rfl (r_pick (b := false) rfl (by kernel_rfl) (by kernel_rfl)) (by kernel_rfl) rfl rfl ?_
      refine W.sch_endU (fun U19 => [.agg #[.int .i64 m, .slice A n c], .slice A2 n2 c2, .int .i64 a, .pointer (some ⟨b2, 0, none⟩), undef, undef, .slice none 0 0, .slice none 0 0, .bool false, undef, undef, U19 11, U19 12, U19 13, U19 14, U19 15, U19 16, U19 17, U19 18, U19 19, .bool false, undef, undef, undef, undef, undef, undef, undef, undef, undef, undef, undef]) (by kernel_rfl) (fun U19 => ?_)
      have x6 := SG.blk s17 x6 (by simp)
      have c20 := (SG.belowR c9 s17 (fun kq e => by cases e))
      refine h3 _ _ ?_
      refine wp_cond_false (by kernel_rfl) ?_
      refine wp_skip ?_
      refine h2 _ _ ?_
      refine wp_seq_k (fun K4 h4 => ?_)
      refine W.region_sch (row := none) (Sch.of [(0, false), (1, false), (2, false), (3, false), (4, true), (5, true), (6, false), (7, false), (8, false), (9, false), (10, false)]) (by kernel_rfl) (by kernel_rfl) (fun _ d _ _ _ h => by cases d <;> exact h) (by kernel_rfl) (fun w21 e22 s23 => ?_)
      refine W.sq (v := .agg #[.int .i64 m, .slice A n c]) rfl (r_load2 rfl (by kernel_rfl) (by kernel_rfl) (by kernel_rfl) (sgS (blk_cell (j := 0) x6 (by kernel_rfl)) (by simp)) (sgS (blk_cell (j := 1) x6 (by kernel_rfl)) (by simp))) (by kernel_rfl) rfl rfl ?_
      refine W.sq (v := .agg #[.int .i64 m, .slice A n c]) rfl (r_load2 rfl (by kernel_rfl) (by kernel_rfl) (by kernel_rfl) (sgS (blk_cell (j := 0) x6 (by kernel_rfl)) (by simp)) (sgS (blk_cell (j := 1) x6 (by kernel_rfl)) (by simp))) (by kernel_rfl) rfl rfl ?_
      refine W.sq (v := .slice A2 n2 c2) rfl (r_move rfl (by kernel_rfl)) (by kernel_rfl) rfl rfl ?_
      refine W.sq (v := .int .i64 a) rfl (r_move rfl (by kernel_rfl)) (by kernel_rfl) rfl rfl ?_
      refine W.sc (vs := [.agg #[.int .i64 m, .slice A n c], .slice A2 n2 c2, .int .i64 a]) rfl rfl (by kernel_rfl) (by kernel_rfl) (by kernel_rfl) rfl (segmentOf_any m A n c ps A2 n2 c2 vs (a) (a).toNat _ (Rd.kept ha (SG.belowR c20 s23 (fun kq e => by cases e))) (Rd.kept hb (SG.belowR c20 s23 (fun kq e => by cases e))) (by omega) (by omega) hp (by omega) (by omega) (by omega) (by omega)) ?_
      rintro e w30 ⟨pb24, rfl, lo28, rd25, b29⟩
      have s31 := SG.of_below s23 b29
      refine ⟨_, rfl, s31, ?_⟩
      have hl26 := rd_bools_len rd25
      rw [wetL_len] at hl26
      have hl26 : (wetL (linked ps (openQ vs false)) (a)).length = 19 := wetL_len _ _
      have z43 := ((SG.belowR c20 s31 (fun kq e => by cases e))).size
      refine W.sc (vs := [.agg #[.int .i64 m, .slice A n c], .pointer (some ⟨pb24, 0, none⟩), .bool true]) rfl rfl (by kernel_rfl) (by kernel_rfl) (by kernel_rfl) rfl (nodesAndPipes_any m A n c ps pb24 true (linked ps (openQ vs false)) (a) _ (Rd.kept ha (SG.belowR c20 s31 (fun kq e => by cases e))) (by omega) (by omega) (by omega) rd25) ?_
      rintro e w47 ⟨A32, n33, c34, A35, n36, c37, rfl, ho38, ho39, nr40, b46⟩
      have s48 := SG.of_below s31 b46
      refine ⟨_, rfl, s48, ?_⟩
      have rd49 := Rd.kept rd25 b46
      have ho41 := own_base (base' := w.heap.size) ho38 z43
      have hlr44 := rd_ints_len (own_rd ho41)
      have nb50 : Nb b2 (.slice A32 n33 c34) := nb_lo ho38 (Nat.lt_of_lt_of_le (blk_lt x6) (World.grownBy.size s31))
      have ho42 := own_base (base' := w.heap.size) ho39 z43
      have hlr45 := rd_ints_len (own_rd ho42)
      have nb51 : Nb b2 (.slice A35 n36 c37) := nb_lo ho39 (Nat.lt_of_lt_of_le (blk_lt x6) (World.grownBy.size s31))
      refine W.sq (v := .tuple #[.slice A32 n33 c34, .slice A35 n36 c37]) rfl (r_move rfl (by kernel_rfl)) (by kernel_rfl) rfl rfl ?_
      refine W.sq (v := .slice A32 n33 c34) rfl (r_extract (vs := #[.slice A32 n33 c34, .slice A35 n36 c37]) rfl (by kernel_rfl) (by kernel_rfl)) (by kernel_rfl) rfl rfl ?_
      refine W.sq (v := .slice A35 n36 c37) rfl (r_extract (vs := #[.slice A32 n33 c34, .slice A35 n36 c37]) rfl (by kernel_rfl) (by kernel_rfl)) (by kernel_rfl) rfl rfl ?_
      refine W.sq (v := .slice A32 n33 c34) rfl (r_assign rfl (by kernel_rfl)) (by kernel_rfl) rfl rfl ?_
      refine W.sq (v := .slice A35 n36 c37) rfl (r_assign rfl (by kernel_rfl)) (by kernel_rfl) rfl rfl ?_
      refine W.sch_endU (fun U52 => [.agg #[.int .i64 m, .slice A n c], .slice A2 n2 c2, .int .i64 a, .pointer (some ⟨b2, 0, none⟩), undef, undef, .slice none 0 0, .slice none 0 0, .bool false, .slice A32 n33 c34, .slice A35 n36 c37, (U19 11), (U19 12), (U19 13), (U19 14), (U19 15), (U19 16), (U19 17), (U19 18), (U19 19), .bool false, U52 21, U52 22, U52 23, U52 24, U52 25, U52 26, U52 27, U52 28, U52 29, undef, undef]) (by kernel_rfl) (fun U52 => ?_)
      have x6 := SG.blk s48 x6 (by simp)
      have c53 := (SG.belowR c20 s48 (fun kq e => by cases e))
      refine h4 _ _ ?_
      refine wp_seq_k (fun K5 h5 => ?_)
      refine W.region_quiet [(0, false), (1, false), (2, false), (3, false), (4, false)] (by kernel_rfl) ?_
      refine W.sq (v := .slice A32 n33 c34) rfl (r_move rfl (by kernel_rfl)) (by kernel_rfl) rfl rfl ?_
      refine W.sq (v := .slice A35 n36 c37) rfl (r_move rfl (by kernel_rfl)) (by kernel_rfl) rfl rfl ?_
      refine W.sq (v := .slice A32 n33 c34) rfl (r_assign rfl (by kernel_rfl)) (by kernel_rfl) rfl rfl ?_
      refine W.sq (v := .slice A35 n36 c37) rfl (r_assign rfl (by kernel_rfl)) (by kernel_rfl) rfl rfl ?_
      refine W.sq (v := .bool true) rfl (r_assign rfl (by kernel_rfl)) (by kernel_rfl) rfl rfl ?_
      refine W.sch_endU (fun U54 => [.agg #[.int .i64 m, .slice A n c], .slice A2 n2 c2, .int .i64 a, .pointer (some ⟨b2, 0, none⟩), undef, undef, .slice A32 n33 c34, .slice A35 n36 c37, .bool true, .slice A32 n33 c34, .slice A35 n36 c37, (U19 11), (U19 12), (U19 13), (U19 14), (U19 15), (U19 16), (U19 17), (U19 18), (U19 19), .bool false, (U52 21), (U52 22), (U52 23), (U52 24), (U52 25), (U52 26), (U52 27), (U52 28), (U52 29), U54 30, U54 31]) (by kernel_rfl) (fun U54 => ?_)
      refine h5 _ _ ?_
      refine wp_ret ?_
      try simp only [Exit.then]
      refine ret3 (v := .slice A32 n33 c34) (x := .slice A35 n36 c37) (y := .bool true) rfl (by kernel_rfl) (by kernel_rfl) (by kernel_rfl) ?_
      have ok55 : SegmentOfNode_v2 m ps vs a = true := by unfold SegmentOfNode_v2; rw [q14, q18]; rfl
      exact fin_ints2  ho41 ho42 (by unfold SegmentOfNode_v0; rw [if_pos ok55]) (by unfold SegmentOfNode_v1; rw [if_pos ok55]) ok55.symm nr40 c53
    · rw [q18]
      refine W.sq (v := .bool true) rfl (r_not (b := false) rfl (by kernel_rfl) rfl) (by kernel_rfl) rfl rfl ?_
      refine W.sq (v := .bool true) rfl (r_pick (b := false) rfl (by kernel_rfl) (by kernel_rfl)) (by kernel_rfl) rfl rfl ?_
      refine W.sch_endU (fun U56 => [.agg #[.int .i64 m, .slice A n c], .slice A2 n2 c2, .int .i64 a, .pointer (some ⟨b2, 0, none⟩), undef, undef, .slice none 0 0, .slice none 0 0, .bool false, undef, undef, U56 11, U56 12, U56 13, U56 14, U56 15, U56 16, U56 17, U56 18, U56 19, .bool true, undef, undef, undef, undef, undef, undef, undef, undef, undef, undef, undef]) (by kernel_rfl) (fun U56 => ?_)
      have x6 := SG.blk s17 x6 (by simp)
      have c57 := (SG.belowR c9 s17 (fun kq e => by cases e))
      refine h3 _ _ ?_
      refine wp_cond_true (by kernel_rfl) ?_
      refine wp_seq_k (fun K6 h6 => ?_)
      refine W.region_quiet [(0, false), (1, false), (2, false)] (by kernel_rfl) ?_
      refine W.sq (v := .slice none 0 0) rfl (r_assign rfl (by kernel_rfl)) (by kernel_rfl) rfl rfl ?_
      refine W.sq (v := .slice none 0 0) rfl (r_assign rfl (by kernel_rfl)) (by kernel_rfl) rfl rfl ?_
      refine W.sq (v := .bool false) rfl (r_assign rfl (by kernel_rfl)) (by kernel_rfl) rfl rfl ?_
      refine W.sch_end (l' := [.agg #[.int .i64 m, .slice A n c], .slice A2 n2 c2, .int .i64 a, .pointer (some ⟨b2, 0, none⟩), undef, undef, .slice none 0 0, .slice none 0 0, .bool false, undef, undef, (U56 11), (U56 12), (U56 13), (U56 14), (U56 15), (U56 16), (U56 17), (U56 18), (U56 19), .bool true, undef, undef, undef, undef, undef, undef, undef, undef, undef, undef, undef]) (by kernel_rfl) ?_
      refine h6 _ _ ?_
      refine wp_ret ?_
      try simp only [Exit.then]
      refine ret3 (v := .slice none 0 0) (x := .slice none 0 0) (y := .bool false) rfl (by kernel_rfl) (by kernel_rfl) (by kernel_rfl) ?_
      have ok58 : SegmentOfNode_v2 m ps vs a = false := by unfold SegmentOfNode_v2; rw [q18, Bool.and_false]
      exact fin_ints2 (zs := []) (zs' := []) (World.ownsRow_nil _ _ _ _) (World.ownsRow_nil _ _ _ _) (by unfold SegmentOfNode_v0; rw [if_neg (by rw [ok58]; simp)]) (by unfold SegmentOfNode_v1; rw [if_neg (by rw [ok58]; simp)]) ok58.symm nbr_nil c57
  · rw [q14]
    refine W.sq (v := .bool true) rfl (r_not (b := false) rfl (by kernel_rfl) rfl) (by kernel_rfl) rfl rfl ?_
    refine W.sq (v := .bool true) rfl (r_move rfl (by kernel_rfl)) (by kernel_rfl) rfl rfl ?_
    refine W.sk s13 rfl (by kernel_rfl) rfl rfl ?_
    refine W.sk s13 rfl (by kernel_rfl) rfl rfl ?_
    refine W.sk s13 rfl (by kernel_rfl) rfl rfl ?_
    refine W.sk s13 rfl (by kernel_rfl) rfl rfl ?_
    refine W.sq (v := .bool true) rfl (r_pick (b := true) rfl (by kernel_rfl) (by kernel_rfl)) (by kernel_rfl) rfl rfl ?_
    refine W.sch_endU (fun U59 => [.agg #[.int .i64 m, .slice A n c], .slice A2 n2 c2, .int .i64 a, .pointer (some ⟨b2, 0, none⟩), undef, undef, .slice none 0 0, .slice none 0 0, .bool false, undef, undef, U59 11, U59 12, U59 13, U59 14, U59 15, undef, undef, undef, undef, .bool true, undef, undef, undef, undef, undef, undef, undef, undef, undef, undef, undef]) (by kernel_rfl) (fun U59 => ?_)
    have x6 := SG.blk s13 x6 (by simp)
    have c60 := (SG.belowR c9 s13 (fun kq e => by cases e))
    refine h3 _ _ ?_
    refine wp_cond_true (by kernel_rfl) ?_
    refine wp_seq_k (fun K7 h7 => ?_)
    refine W.region_quiet [(0, false), (1, false), (2, false)] (by kernel_rfl) ?_
    refine W.sq (v := .slice none 0 0) rfl (r_assign rfl (by kernel_rfl)) (by kernel_rfl) rfl rfl ?_
    refine W.sq (v := .slice none 0 0) rfl (r_assign rfl (by kernel_rfl)) (by kernel_rfl) rfl rfl ?_
    refine W.sq (v := .bool false) rfl (r_assign rfl (by kernel_rfl)) (by kernel_rfl) rfl rfl ?_
    refine W.sch_end (l' := [.agg #[.int .i64 m, .slice A n c], .slice A2 n2 c2, .int .i64 a, .pointer (some ⟨b2, 0, none⟩), undef, undef, .slice none 0 0, .slice none 0 0, .bool false, undef, undef, (U59 11), (U59 12), (U59 13), (U59 14), (U59 15), undef, undef, undef, undef, .bool true, undef, undef, undef, undef, undef, undef, undef, undef, undef, undef, undef]) (by kernel_rfl) ?_
    refine h7 _ _ ?_
    refine wp_ret ?_
    try simp only [Exit.then]
    refine ret3 (v := .slice none 0 0) (x := .slice none 0 0) (y := .bool false) rfl (by kernel_rfl) (by kernel_rfl) (by kernel_rfl) ?_
    have ok61 : SegmentOfNode_v2 m ps vs a = false := by unfold SegmentOfNode_v2; rw [q14]; rfl
    exact fin_ints2 (zs := []) (zs' := []) (World.ownsRow_nil _ _ _ _) (World.ownsRow_nil _ _ _ _) (by unfold SegmentOfNode_v0; rw [if_neg (by rw [ok61]; simp)]) (by unfold SegmentOfNode_v1; rw [if_neg (by rw [ok61]; simp)]) ok61.symm nbr_nil c60

def DryNodes_v1 (m : Int) (ps : List Pp) (vs : List Vv) (a : Int) : Bool := goodV m ps vs && inB a 1 m
noncomputable def DryNodes_v0 (m : Int) (ps : List Pp) (vs : List Vv) (a : Int) : List Int := if DryNodes_v1 m ps vs a = true then nodesL (linked ps (openQ vs true)) m.toNat a false else []
theorem DryNodes_len (m : Int) (ps : List Pp) (vs : List Vv) (a : Int) : (DryNodes_v0 m ps vs a).length ≤ 1048576 := by
  unfold DryNodes_v0
  split
  · rename_i h
    have hg : goodV m ps vs = true := by unfold DryNodes_v1 at h; rw [Bool.and_eq_true] at h; exact h.1
    have hv := goodV_of hg
    have h1 := hv.net.hi
    have h2 := hv.net.len
    skip
    have := nodesL_len (linked ps (openQ vs true)) m.toNat a false
    omega
  · simp

set_option maxRecDepth 100000 in
set_option maxHeartbeats 1000000 in
theorem DryNodes_spec (m : Int) (A : Option Addr) (n c : Nat) (ps : List Pp) (A2 : Option Addr) (n2 c2 : Nat) (vs : List Vv) (a : Int) (w : World) (ha : Rd w 4 A n (pipesV ps)) (hb : Rd w 4 A2 n2 (valvesV vs)) (hn : n ≤ 1048576) (hn2 : n2 ≤ 1048576) (hfm : Fm A n c) (hfm2 : Fm A2 n2 c2) :
    Calls Try.prog 38 #[.agg #[.int .i64 m, .slice A n c], .slice A2 n2 c2, .int .i64 a] w fun e w' => ∃ A' d, e = .returned (.tuple #[.slice A' (DryNodes_v0 m ps vs a).length d, .bool (DryNodes_v1 m ps vs a)]) ∧ Rd w' 1 A' (DryNodes_v0 m ps vs a).length (intsV (DryNodes_v0 m ps vs a)) ∧ Below w.heap.size w w' := by
  have hl := rd_pipes_len ha
  have hl2 := rd_valves_len hb
  go_enter Try.func38, Try.ntmps38
  refine wp_seq_k (fun K1 h1 => ?_)
  refine W.region_plain (row := none) [(0, true), (1, false), (2, false)] (by kernel_rfl) ?_
  have s1 := SG.self w none
  refine W.sn (fun b => .pointer (some ⟨b, 0, none⟩)) #[.int .i64 m, .slice A n c] 31 s1 rfl (by kernel_rfl) rfl (fun _ => by kernel_rfl) (fun b2 w3 hb4 k5 x6 s7 => ?_)
  have lo8 : w.heap.size ≤ b2 := by have := ((SG.belowR (Below.refl _ _) s1 (fun kq e => by cases e))).size; omega
  refine W.sq (v := .slice none 0 0) rfl (r_assign rfl (by kernel_rfl)) (by kernel_rfl) rfl rfl ?_
  refine W.sq (v := .bool false) rfl (r_assign rfl (by kernel_rfl)) (by kernel_rfl) rfl rfl ?_
  refine W.sch_end (l' := [.agg #[.int .i64 m, .slice A n c], .slice A2 n2 c2, .int .i64 a, .pointer (some ⟨b2, 0, none⟩), undef, undef, .slice none 0 0, .bool false, undef, undef, undef, undef, undef, undef, undef, undef, undef, undef, undef, undef, undef, undef, undef, undef, undef, undef, undef, undef, undef]) (by kernel_rfl) ?_
  have c9 := (SG.belowR (Below.refl _ _) s7 (fun kq e => by cases e))
  refine h1 _ _ ?_
  refine wp_seq_k (fun K2 h2 => ?_)
  refine wp_seq_k (fun K3 h3 => ?_)
  refine W.region_plain (row := none) [(0, false), (1, false), (2, true), (3, false), (4, false), (5, false), (6, false), (7, true), (8, false), (9, false)] (by kernel_rfl) ?_
  have s10 := SG.self w3 none
  refine W.sq (v := .agg #[.int .i64 m, .slice A n c]) rfl (r_load2 rfl (by kernel_rfl) (by kernel_rfl) (by kernel_rfl) (sgS (blk_cell (j := 0) x6 (by kernel_rfl)) (by simp)) (sgS (blk_cell (j := 1) x6 (by kernel_rfl)) (by simp))) (by kernel_rfl) rfl rfl ?_
  refine W.sq (v := .slice A2 n2 c2) rfl (r_move rfl (by kernel_rfl)) (by kernel_rfl) rfl rfl ?_
  refine W.sc (vs := [.agg #[.int .i64 m, .slice A n c], .slice A2 n2 c2]) rfl rfl (by kernel_rfl) (by kernel_rfl) (by kernel_rfl) rfl (l4Good_any m A n c ps A2 n2 c2 vs _ (Rd.kept ha (SG.belowR c9 s10 (fun kq e => by cases e))) (Rd.kept hb (SG.belowR c9 s10 (fun kq e => by cases e))) (by omega) (by omega)) ?_
  rintro e w12 ⟨rfl, b11⟩
  have s13 := SG.of_below s10 b11
  refine ⟨_, rfl, s13, ?_⟩
  rcases Bool.eq_false_or_eq_true (goodV m ps vs) with q14 | q14
  · rw [q14]
    have hv9 := goodV_of q14
    have hg := hv9.net
    have hgl := hg.lo
    have hgh := hg.hi
    have hp := hg.pipesIn
    have hlen10 := hg.len
    have hu := hv9.uniq
    have hvl := hv9.len
    refine W.sq (v := .bool false) rfl (r_not (b := true) rfl (by kernel_rfl) rfl) (by kernel_rfl) rfl rfl ?_
    refine W.sq (v := .bool false) rfl (r_move rfl (by kernel_rfl)) (by kernel_rfl) rfl rfl ?_
    refine W.sq (v := .agg #[.int .i64 m, .slice A n c]) rfl (r_load2 rfl (by kernel_rfl) (by kernel_rfl) (by kernel_rfl) (sgS (blk_cell (j := 0) x6 (by kernel_rfl)) (by simp)) (sgS (blk_cell (j := 1) x6 (by kernel_rfl)) (by simp))) (by kernel_rfl) rfl rfl ?_
    refine W.sq (v := .int .i64 a) rfl (r_move rfl (by kernel_rfl)) (by kernel_rfl) rfl rfl ?_
    refine W.sc (vs := [.agg #[.int .i64 m, .slice A n c], .int .i64 a]) rfl rfl (by kernel_rfl) (by kernel_rfl) (by kernel_rfl) rfl (l2Node_any m A n c ps a _ (Rd.kept ha (SG.belowR c9 s13 (fun kq e => by cases e))) (by omega)) ?_
    rintro e w16 ⟨rfl, b15⟩
    have s17 := SG.of_below s13 b15
    refine ⟨_, rfl, s17, ?_⟩
    rcases Bool.eq_false_or_eq_true (goodN m ps && inB a 1 m) with q18 | q18
    · rw [q18]
      have q19 : inB a 1 m = true := (Bool.and_eq_true_iff.1 q18).2
      have ha9 := inB_iff.1 q19
      refine W.sq (v := .bool false) rfl (r_not (b := true) rfl (by kernel_rfl) rfl) (by kernel_rfl) rfl rfl ?_
      refine W.sq (v := .bool false) rfl (r_pick (b := false) rfl (by kernel_rfl) (by kernel_rfl)) (by kernel_rfl) rfl rfl ?_
      refine W.sch_endU (fun U20 => [.agg #[.int .i64 m, .slice A n c], .slice A2 n2 c2, .int .i64 a, .pointer (some ⟨b2, 0, none⟩), undef, undef, .slice none 0 0, .bool false, undef, undef, U20 10, U20 11, U20 12, U20 13, U20 14, U20 15, U20 16, U20 17, U20 18, .bool false, undef, undef, undef, undef, undef, undef, undef, undef, undef]) (by kernel_rfl) (fun U20 => ?_)
      have x6 := SG.blk s17 x6 (by simp)
      have c21 := (SG.belowR c9 s17 (fun kq e => by cases e))
      refine h3 _ _ ?_
      refine wp_cond_false (by kernel_rfl) ?_
      refine wp_skip ?_
      refine h2 _ _ ?_
      refine wp_seq_k (fun K4 h4 => ?_)
      refine W.region_plain (row := none) [(0, false), (1, false), (2, false), (3, true), (4, false), (5, false), (6, false), (7, false), (8, false)] (by kernel_rfl) ?_
      have s22 := SG.self w16 none
      refine W.sq (v := .agg #[.int .i64 m, .slice A n c]) rfl (r_load2 rfl (by kernel_rfl) (by kernel_rfl) (by kernel_rfl) (sgS (blk_cell (j := 0) x6 (by kernel_rfl)) (by simp)) (sgS (blk_cell (j := 1) x6 (by kernel_rfl)) (by simp))) (by kernel_rfl) rfl rfl ?_
      refine W.sq (v := .slice A2 n2 c2) rfl (r_move rfl (by kernel_rfl)) (by kernel_rfl) rfl rfl ?_
      refine W.sq (v := .int .i64 a) rfl (r_move rfl (by kernel_rfl)) (by kernel_rfl) rfl rfl ?_
      refine W.sc (vs := [.agg #[.int .i64 m, .slice A n c], .slice A2 n2 c2, .int .i64 a]) rfl rfl (by kernel_rfl) (by kernel_rfl) (by kernel_rfl) rfl (l4Dry_any m A n c ps A2 n2 c2 vs a _ (Rd.kept ha (SG.belowR c21 s22 (fun kq e => by cases e))) (Rd.kept hb (SG.belowR c21 s22 (fun kq e => by cases e))) (by omega) (by omega) hp (by omega) (by omega) (by omega)) ?_
      rintro e w38 ⟨A23, n24, c25, A26, n27, c28, rfl, rd29, fm30, rd31, fm32, b37⟩
      have s39 := SG.of_below s22 b37
      refine ⟨_, rfl, s39, ?_⟩
      have hl35 := rd_ints_len rd29
      have hl36 := rd_ints_len rd31
      have := nodesL_len (linked ps (openQ vs true)) m.toNat a false
      have := idxL_len (linked ps (openQ vs true)) ps.length a false
      refine W.sq (v := .tuple #[.slice A23 n24 c25, .slice A26 n27 c28]) rfl (r_move rfl (by kernel_rfl)) (by kernel_rfl) rfl rfl ?_
      refine W.sq (v := .slice A23 n24 c25) rfl (r_extract (vs := #[.slice A23 n24 c25, .slice A26 n27 c28]) rfl (by kernel_rfl) (by kernel_rfl)) (by kernel_rfl) rfl rfl ?_
      refine W.sq (v := .slice A26 n27 c28) rfl (r_extract (vs := #[.slice A23 n24 c25, .slice A26 n27 c28]) rfl (by kernel_rfl) (by kernel_rfl)) (by kernel_rfl) rfl rfl ?_
      refine W.sq (v := .slice A23 n24 c25) rfl (r_assign rfl (by kernel_rfl)) (by kernel_rfl) rfl rfl ?_
      refine W.sq (v := .slice A26 n27 c28) rfl (r_assign rfl (by kernel_rfl)) (by kernel_rfl) rfl rfl ?_
      refine W.sch_endU (fun U40 => [.agg #[.int .i64 m, .slice A n c], .slice A2 n2 c2, .int .i64 a, .pointer (some ⟨b2, 0, none⟩), undef, undef, .slice none 0 0, .bool false, .slice A23 n24 c25, U40 9, (U20 10), (U20 11), (U20 12), (U20 13), (U20 14), (U20 15), (U20 16), (U20 17), (U20 18), .bool false, undef, U40 21, U40 22, U40 23, U40 24, U40 25, U40 26, U40 27, undef]) (by kernel_rfl) (fun U40 => ?_)
      have x6 := SG.blk s39 x6 (by simp)
      have c41 := (SG.belowR c21 s39 (fun kq e => by cases e))
      refine h4 _ _ ?_
      refine wp_seq_k (fun K5 h5 => ?_)
      refine W.region_quiet [(0, false), (1, false), (2, false)] (by kernel_rfl) ?_
      refine W.sq (v := .slice A23 n24 c25) rfl (r_move rfl (by kernel_rfl)) (by kernel_rfl) rfl rfl ?_
      refine W.sq (v := .slice A23 n24 c25) rfl (r_assign rfl (by kernel_rfl)) (by kernel_rfl) rfl rfl ?_
      refine W.sq (v := .bool true) rfl (r_assign rfl (by kernel_rfl)) (by kernel_rfl) rfl rfl ?_
      refine W.sch_endU (fun U42 => [.agg #[.int .i64 m, .slice A n c], .slice A2 n2 c2, .int .i64 a, .pointer (some ⟨b2, 0, none⟩), undef, undef, .slice A23 n24 c25, .bool true, .slice A23 n24 c25, (U40 9), (U20 10), (U20 11), (U20 12), (U20 13), (U20 14), (U20 15), (U20 16), (U20 17), (U20 18), .bool false, undef, (U40 21), (U40 22), (U40 23), (U40 24), (U40 25), (U40 26), (U40 27), U42 28]) (by kernel_rfl) (fun U42 => ?_)
      refine h5 _ _ ?_
      refine wp_ret ?_
      try simp only [Exit.then]
      refine ret2 (v := .slice A23 n24 c25) (x := .bool true) rfl (by kernel_rfl) (by kernel_rfl) ?_
      have ok43 : DryNodes_v1 m ps vs a = true := by unfold DryNodes_v1; rw [q14, q19]; rfl
      exact fin_rd  rd29 (by unfold DryNodes_v0; rw [if_pos ok43]) ok43.symm c41
    · rw [q18]
      have q44 : inB a 1 m = false := by have h9 := q18; rw [hv9.good, Bool.true_and] at h9; exact h9
      refine W.sq (v := .bool true) rfl (r_not (b := false) rfl (by kernel_rfl) rfl) (by kernel_rfl) rfl rfl ?_
      refine W.sq (v := .bool true) rfl (r_pick (b := false) rfl (by kernel_rfl) (by kernel_rfl)) (by kernel_rfl) rfl rfl ?_
      refine W.sch_endU (fun U45 => [.agg #[.int .i64 m, .slice A n c], .slice A2 n2 c2, .int .i64 a, .pointer (some ⟨b2, 0, none⟩), undef, undef, .slice none 0 0, .bool false, undef, undef, U45 10, U45 11, U45 12, U45 13, U45 14, U45 15, U45 16, U45 17, U45 18, .bool true, undef, undef, undef, undef, undef, undef, undef, undef, undef]) (by kernel_rfl) (fun U45 => ?_)
      have x6 := SG.blk s17 x6 (by simp)
      have c46 := (SG.belowR c9 s17 (fun kq e => by cases e))
      refine h3 _ _ ?_
      refine wp_cond_true (by kernel_rfl) ?_
      refine wp_seq_k (fun K6 h6 => ?_)
      refine W.region_plain (row := none) [(0, true), (1, false), (2, false)] (by kernel_rfl) ?_
      have s47 := SG.self w16 none
      refine W.sn (fun b => .slice (some ⟨b, 0, none⟩) 0 0) #[] 3 s47 rfl (by kernel_rfl) rfl (fun _ => by kernel_rfl) (fun b48 w49 hb50 k51 x52 s53 => ?_)
      have lo54 : w.heap.size ≤ b48 := by have := ((SG.belowR c46 s47 (fun kq e => by cases e))).size; omega
      have ne55 : b2 ≠ b48 := by have := blk_lt x6; have := World.grownBy.size s47; omega
      refine W.sq (v := .slice (some ⟨b48, 0, none⟩) 0 0) rfl (r_assign rfl (by kernel_rfl)) (by kernel_rfl) rfl rfl ?_
      refine W.sq (v := .bool false) rfl (r_assign rfl (by kernel_rfl)) (by kernel_rfl) rfl rfl ?_
      refine W.sch_endU (fun U56 => [.agg #[.int .i64 m, .slice A n c], .slice A2 n2 c2, .int .i64 a, .pointer (some ⟨b2, 0, none⟩), undef, undef, .slice (some ⟨b48, 0, none⟩) 0 0, .bool false, undef, undef, (U45 10), (U45 11), (U45 12), (U45 13), (U45 14), (U45 15), (U45 16), (U45 17), (U45 18), .bool true, U56 20, undef, undef, undef, undef, undef, undef, undef, undef]) (by kernel_rfl) (fun U56 => ?_)
      have x6 := SG.blk s53 x6 (by simp)
      have c57 := (SG.belowR c46 s53 (fun kq e => by cases e))
      refine h6 _ _ ?_
      refine wp_ret ?_
      try simp only [Exit.then]
      refine ret2 (v := .slice (some ⟨b48, 0, none⟩) 0 0) (x := .bool false) rfl (by kernel_rfl) (by kernel_rfl) ?_
      have ok58 : DryNodes_v1 m ps vs a = false := by unfold DryNodes_v1; rw [q44, Bool.and_false]
      have ho59 := own_empty (base := w.heap.size) (size := 1) x52 lo54
      replace ho59 : World.ownsRow _ _ _ _ _ _ (intsV []) := ho59
      have nb60 : Nb b2 (.slice (some ⟨b48, 0, none⟩) 0 0) := nb_new (by have := ne55; omega)
      exact fin_rd (zs := []) (own_rd ho59) (by unfold DryNodes_v0; rw [if_neg (by rw [ok58]; simp)]) ok58.symm c57
  · rw [q14]
    refine W.sq (v := .bool true) rfl (r_not (b := false) rfl (by kernel_rfl) rfl) (by kernel_rfl) rfl rfl ?_
    refine W.sq (v := .bool true) rfl (r_move rfl (by kernel_rfl)) (by kernel_rfl) rfl rfl ?_
    refine W.sk s13 rfl (by kernel_rfl) rfl rfl ?_
    refine W.sk s13 rfl (by kernel_rfl) rfl rfl ?_
    refine W.sk s13 rfl (by kernel_rfl) rfl rfl ?_
    refine W.sk s13 rfl (by kernel_rfl) rfl rfl ?_
    refine W.sq (v := .bool true) rfl (r_pick (b := true) rfl (by kernel_rfl) (by kernel_rfl)) (by kernel_rfl) rfl rfl ?_
    refine W.sch_endU (fun U61 => [.agg #[.int .i64 m, .slice A n c], .slice A2 n2 c2, .int .i64 a, .pointer (some ⟨b2, 0, none⟩), undef, undef, .slice none 0 0, .bool false, undef, undef, U61 10, U61 11, U61 12, U61 13, U61 14, undef, undef, undef, undef, .bool true, undef, undef, undef, undef, undef, undef, undef, undef, undef]) (by kernel_rfl) (fun U61 => ?_)
    have x6 := SG.blk s13 x6 (by simp)
    have c62 := (SG.belowR c9 s13 (fun kq e => by cases e))
    refine h3 _ _ ?_
    refine wp_cond_true (by kernel_rfl) ?_
    refine wp_seq_k (fun K7 h7 => ?_)
    refine W.region_plain (row := none) [(0, true), (1, false), (2, false)] (by kernel_rfl) ?_
    have s63 := SG.self w12 none
    refine W.sn (fun b => .slice (some ⟨b, 0, none⟩) 0 0) #[] 3 s63 rfl (by kernel_rfl) rfl (fun _ => by kernel_rfl) (fun b64 w65 hb66 k67 x68 s69 => ?_)
    have lo70 : w.heap.size ≤ b64 := by have := ((SG.belowR c62 s63 (fun kq e => by cases e))).size; omega
    have ne71 : b2 ≠ b64 := by have := blk_lt x6; have := World.grownBy.size s63; omega
    refine W.sq (v := .slice (some ⟨b64, 0, none⟩) 0 0) rfl (r_assign rfl (by kernel_rfl)) (by kernel_rfl) rfl rfl ?_
    refine W.sq (v := .bool false) rfl (r_assign rfl (by kernel_rfl)) (by kernel_rfl) rfl rfl ?_
    refine W.sch_endU (fun U72 => [.agg #[.int .i64 m, .slice A n c], .slice A2 n2 c2, .int .i64 a, .pointer (some ⟨b2, 0, none⟩), undef, undef, .slice (some ⟨b64, 0, none⟩) 0 0, .bool false, undef, undef, (U61 10), (U61 11), (U61 12), (U61 13), (U61 14), undef, undef, undef, undef, .bool true, U72 20, undef, undef, undef, undef, undef, undef, undef, undef]) (by kernel_rfl) (fun U72 => ?_)
    have x6 := SG.blk s69 x6 (by simp)
    have c73 := (SG.belowR c62 s69 (fun kq e => by cases e))
    refine h7 _ _ ?_
    refine wp_ret ?_
    try simp only [Exit.then]
    refine ret2 (v := .slice (some ⟨b64, 0, none⟩) 0 0) (x := .bool false) rfl (by kernel_rfl) (by kernel_rfl) ?_
    have ok74 : DryNodes_v1 m ps vs a = false := by unfold DryNodes_v1; rw [q14]; rfl
    have ho75 := own_empty (base := w.heap.size) (size := 1) x68 lo70
    replace ho75 : World.ownsRow _ _ _ _ _ _ (intsV []) := ho75
    have nb76 : Nb b2 (.slice (some ⟨b64, 0, none⟩) 0 0) := nb_new (by have := ne71; omega)
    exact fin_rd (zs := []) (own_rd ho75) (by unfold DryNodes_v0; rw [if_neg (by rw [ok74]; simp)]) ok74.symm c73

set_option maxRecDepth 100000 in
set_option maxHeartbeats 1000000 in
theorem DryNodes_impl (m : Int) (A : Option Addr) (n c : Nat) (ps : List Pp) (A2 : Option Addr) (n2 c2 : Nat) (vs : List Vv) (a : Int) (w : World) (ha : Rd w 4 A n (pipesV ps)) (hb : Rd w 4 A2 n2 (valvesV vs)) (hn : n ≤ 1048576) (hn2 : n2 ≤ 1048576) (hfm : Fm A n c) (hfm2 : Fm A2 n2 c2) :
    Calls Try.prog 39 #[.agg #[.int .i64 m, .slice A n c], .slice A2 n2 c2, .int .i64 a] w fun e w' => ∃ A' d, e = .returned (.tuple #[.slice A' (DryNodes_v0 m ps vs a).length d, .bool (DryNodes_v1 m ps vs a)]) ∧ w'.ownsRow w.heap.size 3 1 (.slice A' (DryNodes_v0 m ps vs a).length d) (DryNodes_v0 m ps vs a).length (intsV (DryNodes_v0 m ps vs a)) ∧ Below w.heap.size w w' := by
  have hl := rd_pipes_len ha
  have hl2 := rd_valves_len hb
  go_enter Try.func39, Try.ntmps39
  refine wp_seq_k (fun K1 h1 => ?_)
  refine W.region_plain (row := none) [(0, true), (1, false), (2, false)] (by kernel_rfl) ?_
  have s1 := SG.self w none
  refine W.sn (fun b => .pointer (some ⟨b, 0, none⟩)) #[.int .i64 m, .slice A n c] 31 s1 rfl (by kernel_rfl) rfl (fun _ => by kernel_rfl) (fun b2 w3 hb4 k5 x6 s7 => ?_)
  have lo8 : w.heap.size ≤ b2 := by have := ((SG.belowR (Below.refl _ _) s1 (fun kq e => by cases e))).size; omega
  refine W.sq (v := .slice none 0 0) rfl (r_assign rfl (by kernel_rfl)) (by kernel_rfl) rfl rfl ?_
  refine W.sq (v := .bool false) rfl (r_assign rfl (by kernel_rfl)) (by kernel_rfl) rfl rfl ?_
  refine W.sch_end (l' := [.agg #[.int .i64 m, .slice A n c], .slice A2 n2 c2, .int .i64 a, .pointer (some ⟨b2, 0, none⟩), undef, undef, .slice none 0 0, .bool false, undef, undef, undef, undef, undef, undef, undef, undef, undef, undef, undef, undef, undef, undef, undef, undef, undef, undef, undef, undef, undef, undef]) (by kernel_rfl) ?_
  have c9 := (SG.belowR (Below.refl _ _) s7 (fun kq e => by cases e))
  refine h1 _ _ ?_
  refine wp_seq_k (fun K2 h2 => ?_)
  refine wp_seq_k (fun K3 h3 => ?_)
  refine W.region_plain (row := none) [(0, false), (1, false), (2, true), (3, false), (4, false), (5, false), (6, false), (7, true), (8, false), (9, false)] (by kernel_rfl) ?_
  have s10 := SG.self w3 none
  refine W.sq (v := .agg #[.int .i64 m, .slice A n c]) rfl (r_load2 rfl (by kernel_rfl) (by kernel_rfl) (by kernel_rfl) (sgS (blk_cell (j := 0) x6 (by kernel_rfl)) (by simp)) (sgS (blk_cell (j := 1) x6 (by kernel_rfl)) (by simp))) (by kernel_rfl) rfl rfl ?_
  refine W.sq (v := .slice A2 n2 c2) rfl (r_move rfl (by kernel_rfl)) (by kernel_rfl) rfl rfl ?_
  refine W.sc (vs := [.agg #[.int .i64 m, .slice A n c], .slice A2 n2 c2]) rfl rfl (by kernel_rfl) (by kernel_rfl) (by kernel_rfl) rfl (IsValidValves_any m A n c ps A2 n2 c2 vs _ (Rd.kept ha (SG.belowR c9 s10 (fun kq e => by cases e))) (Rd.kept hb (SG.belowR c9 s10 (fun kq e => by cases e))) (by omega) (by omega) hfm2) ?_
  rintro e w12 ⟨rfl, b11⟩
  have s13 := SG.of_below s10 b11
  refine ⟨_, rfl, s13, ?_⟩
  rcases Bool.eq_false_or_eq_true (goodV m ps vs) with q14 | q14
  · rw [q14]
    have hv9 := goodV_of q14
    have hg := hv9.net
    have hgl := hg.lo
    have hgh := hg.hi
    have hp := hg.pipesIn
    have hlen10 := hg.len
    have hu := hv9.uniq
    have hvl := hv9.len
    refine W.sq (v := .bool false) rfl (r_not (b := true) rfl (by kernel_rfl) rfl) (by kernel_rfl) rfl rfl ?_
    refine W.sq (v := .bool false) rfl (r_move rfl (by kernel_rfl)) (by kernel_rfl) rfl rfl ?_
    refine W.sq (v := .agg #[.int .i64 m, .slice A n c]) rfl (r_load2 rfl (by kernel_rfl) (by kernel_rfl) (by kernel_rfl) (sgS (blk_cell (j := 0) x6 (by kernel_rfl)) (by simp)) (sgS (blk_cell (j := 1) x6 (by kernel_rfl)) (by simp))) (by kernel_rfl) rfl rfl ?_
    refine W.sq (v := .int .i64 a) rfl (r_move rfl (by kernel_rfl)) (by kernel_rfl) rfl rfl ?_
    refine W.sc (vs := [.agg #[.int .i64 m, .slice A n c], .int .i64 a]) rfl rfl (by kernel_rfl) (by kernel_rfl) (by kernel_rfl) rfl (has_any m A n c ps a _) ?_
    rintro e w16 ⟨rfl, b15⟩
    have s17 := SG.of_below s13 b15
    refine ⟨_, rfl, s17, ?_⟩
    rcases Bool.eq_false_or_eq_true (inB a 1 m) with q18 | q18
    · rw [q18]
      have ha9 := inB_iff.1 q18
      refine W.sq (v := .bool false) rfl (r_not (b := true) rfl (by kernel_rfl) rfl) (by kernel_rfl) rfl rfl ?_
      refine W.sq (v := .bool false) rfl (r_pick (b := false) rfl (by kernel_rfl) (by kernel_rfl)) (by kernel_rfl) rfl rfl ?_
      refine W.sch_endU (fun U19 => [.agg #[.int .i64 m, .slice A n c], .slice A2 n2 c2, .int .i64 a, .pointer (some ⟨b2, 0, none⟩), undef, undef, .slice none 0 0, .bool false, undef, undef, U19 10, U19 11, U19 12, U19 13, U19 14, U19 15, U19 16, U19 17, U19 18, .bool false, undef, undef, undef, undef, undef, undef, undef, undef, undef, undef]) (by kernel_rfl) (fun U19 => ?_)
      have x6 := SG.blk s17 x6 (by simp)
      have c20 := (SG.belowR c9 s17 (fun kq e => by cases e))
      refine h3 _ _ ?_
      refine wp_cond_false (by kernel_rfl) ?_
      refine wp_skip ?_
      refine h2 _ _ ?_
      refine wp_seq_k (fun K4 h4 => ?_)
      refine W.region_sch (row := none) (Sch.of [(0, false), (1, false), (2, false), (3, false), (4, true), (5, true), (6, false), (7, false), (8, false), (9, false), (10, false)]) (by kernel_rfl) (by kernel_rfl) (fun _ d _ _ _ h => by cases d <;> exact h) (by kernel_rfl) (fun w21 e22 s23 => ?_)
      refine W.sq (v := .agg #[.int .i64 m, .slice A n c]) rfl (r_load2 rfl (by kernel_rfl) (by kernel_rfl) (by kernel_rfl) (sgS (blk_cell (j := 0) x6 (by kernel_rfl)) (by simp)) (sgS (blk_cell (j := 1) x6 (by kernel_rfl)) (by simp))) (by kernel_rfl) rfl rfl ?_
      refine W.sq (v := .agg #[.int .i64 m, .slice A n c]) rfl (r_load2 rfl (by kernel_rfl) (by kernel_rfl) (by kernel_rfl) (sgS (blk_cell (j := 0) x6 (by kernel_rfl)) (by simp)) (sgS (blk_cell (j := 1) x6 (by kernel_rfl)) (by simp))) (by kernel_rfl) rfl rfl ?_
      refine W.sq (v := .slice A2 n2 c2) rfl (r_move rfl (by kernel_rfl)) (by kernel_rfl) rfl rfl ?_
      refine W.sq (v := .int .i64 a) rfl (r_move rfl (by kernel_rfl)) (by kernel_rfl) rfl rfl ?_
      refine W.sc (vs := [.agg #[.int .i64 m, .slice A n c], .slice A2 n2 c2, .int .i64 a]) rfl rfl (by kernel_rfl) (by kernel_rfl) (by kernel_rfl) rfl (watered_any m A n c ps A2 n2 c2 vs (a) (a).toNat _ (Rd.kept ha (SG.belowR c20 s23 (fun kq e => by cases e))) (Rd.kept hb (SG.belowR c20 s23 (fun kq e => by cases e))) (by omega) (by omega) hp (by omega) (by omega) hu (by omega) (by omega)) ?_
      rintro e w30 ⟨pb24, rfl, lo28, rd25, b29⟩
      have s31 := SG.of_below s23 b29
      refine ⟨_, rfl, s31, ?_⟩
      have hl26 := rd_bools_len rd25
      rw [wetL_len] at hl26
      have hl26 : (wetL (linked ps (openQ vs true)) (a)).length = 19 := wetL_len _ _
      have z43 := ((SG.belowR c20 s31 (fun kq e => by cases e))).size
      refine W.sc (vs := [.agg #[.int .i64 m, .slice A n c], .pointer (some ⟨pb24, 0, none⟩), .bool false]) rfl rfl (by kernel_rfl) (by kernel_rfl) (by kernel_rfl) rfl (nodesAndPipes_any m A n c ps pb24 false (linked ps (openQ vs true)) (a) _ (Rd.kept ha (SG.belowR c20 s31 (fun kq e => by cases e))) (by omega) (by omega) (by omega) rd25) ?_
      rintro e w47 ⟨A32, n33, c34, A35, n36, c37, rfl, ho38, ho39, nr40, b46⟩
      have s48 := SG.of_below s31 b46
      refine ⟨_, rfl, s48, ?_⟩
      have rd49 := Rd.kept rd25 b46
      have ho41 := own_base (base' := w.heap.size) ho38 z43
      have hlr44 := rd_ints_len (own_rd ho41)
      have nb50 : Nb b2 (.slice A32 n33 c34) := nb_lo ho38 (Nat.lt_of_lt_of_le (blk_lt x6) (World.grownBy.size s31))
      have ho42 := own_base (base' := w.heap.size) ho39 z43
      have hlr45 := rd_ints_len (own_rd ho42)
      have nb51 : Nb b2 (.slice A35 n36 c37) := nb_lo ho39 (Nat.lt_of_lt_of_le (blk_lt x6) (World.grownBy.size s31))
      refine W.sq (v := .tuple #[.slice A32 n33 c34, .slice A35 n36 c37]) rfl (r_move rfl (by kernel_rfl)) (by kernel_rfl) rfl rfl ?_
      refine W.sq (v := .slice A32 n33 c34) rfl (r_extract (vs := #[.slice A32 n33 c34, .slice A35 n36 c37]) rfl (by kernel_rfl) (by kernel_rfl)) (by kernel_rfl) rfl rfl ?_
      refine W.sq (v := .slice A35 n36 c37) rfl (r_extract (vs := #[.slice A32 n33 c34, .slice A35 n36 c37]) rfl (by kernel_rfl) (by kernel_rfl)) (by kernel_rfl) rfl rfl ?_
      refine W.sq (v := .slice A32 n33 c34) rfl (r_assign rfl (by kernel_rfl)) (by kernel_rfl) rfl rfl ?_
      refine W.sq (v := .slice A35 n36 c37) rfl (r_assign rfl (by kernel_rfl)) (by kernel_rfl) rfl rfl ?_
      refine W.sch_endU (fun U52 => [.agg #[.int .i64 m, .slice A n c], .slice A2 n2 c2, .int .i64 a, .pointer (some ⟨b2, 0, none⟩), undef, undef, .slice none 0 0, .bool false, .slice A32 n33 c34, U52 9, (U19 10), (U19 11), (U19 12), (U19 13), (U19 14), (U19 15), (U19 16), (U19 17), (U19 18), .bool false, U52 20, U52 21, U52 22, U52 23, U52 24, U52 25, U52 26, U52 27, U52 28, undef]) (by kernel_rfl) (fun U52 => ?_)
      have x6 := SG.blk s48 x6 (by simp)
      have c53 := (SG.belowR c20 s48 (fun kq e => by cases e))
      refine h4 _ _ ?_
      refine wp_seq_k (fun K5 h5 => ?_)
      refine W.region_quiet [(0, false), (1, false), (2, false)] (by kernel_rfl) ?_
      refine W.sq (v := .slice A32 n33 c34) rfl (r_move rfl (by kernel_rfl)) (by kernel_rfl) rfl rfl ?_
      refine W.sq (v := .slice A32 n33 c34) rfl (r_assign rfl (by kernel_rfl)) (by kernel_rfl) rfl rfl ?_
      refine W.sq (v := .bool true) rfl (r_assign rfl (by kernel_rfl)) (by kernel_rfl) rfl rfl ?_
      refine W.sch_endU (fun U54 => [.agg #[.int .i64 m, .slice A n c], .slice A2 n2 c2, .int .i64 a, .pointer (some ⟨b2, 0, none⟩), undef, undef, .slice A32 n33 c34, .bool true, .slice A32 n33 c34, (U52 9), (U19 10), (U19 11), (U19 12), (U19 13), (U19 14), (U19 15), (U19 16), (U19 17), (U19 18), .bool false, (U52 20), (U52 21), (U52 22), (U52 23), (U52 24), (U52 25), (U52 26), (U52 27), (U52 28), U54 29]) (by kernel_rfl) (fun U54 => ?_)
      refine h5 _ _ ?_
      refine wp_ret ?_
      try simp only [Exit.then]
      refine ret2 (v := .slice A32 n33 c34) (x := .bool true) rfl (by kernel_rfl) (by kernel_rfl) ?_
      have ok55 : DryNodes_v1 m ps vs a = true := by unfold DryNodes_v1; rw [q14, q18]; rfl
      exact fin_ints  ho41 (by unfold DryNodes_v0; rw [if_pos ok55]) ok55.symm c53
    · rw [q18]
      refine W.sq (v := .bool true) rfl (r_not (b := false) rfl (by kernel_rfl) rfl) (by kernel_rfl) rfl rfl ?_
      refine W.sq (v := .bool true) rfl (r_pick (b := false) rfl (by kernel_rfl) (by kernel_rfl)) (by kernel_rfl) rfl rfl ?_
      refine W.sch_endU (fun U56 => [.agg #[.int .i64 m, .slice A n c], .slice A2 n2 c2, .int .i64 a, .pointer (some ⟨b2, 0, none⟩), undef, undef, .slice none 0 0, .bool false, undef, undef, U56 10, U56 11, U56 12, U56 13, U56 14, U56 15, U56 16, U56 17, U56 18, .bool true, undef, undef, undef, undef, undef, undef, undef, undef, undef, undef]) (by kernel_rfl) (fun U56 => ?_)
      have x6 := SG.blk s17 x6 (by simp)
      have c57 := (SG.belowR c9 s17 (fun kq e => by cases e))
      refine h3 _ _ ?_
      refine wp_cond_true (by kernel_rfl) ?_
      refine wp_seq_k (fun K6 h6 => ?_)
      refine W.region_quiet [(0, false), (1, false)] (by kernel_rfl) ?_
      refine W.sq (v := .slice none 0 0) rfl (r_assign rfl (by kernel_rfl)) (by kernel_rfl) rfl rfl ?_
      refine W.sq (v := .bool false) rfl (r_assign rfl (by kernel_rfl)) (by kernel_rfl) rfl rfl ?_
      refine W.sch_end (l' := [.agg #[.int .i64 m, .slice A n c], .slice A2 n2 c2, .int .i64 a, .pointer (some ⟨b2, 0, none⟩), undef, undef, .slice none 0 0, .bool false, undef, undef, (U56 10), (U56 11), (U56 12), (U56 13), (U56 14), (U56 15), (U56 16), (U56 17), (U56 18), .bool true, undef, undef, undef, undef, undef, undef, undef, undef, undef, undef]) (by kernel_rfl) ?_
      refine h6 _ _ ?_
      refine wp_ret ?_
      try simp only [Exit.then]
      refine ret2 (v := .slice none 0 0) (x := .bool false) rfl (by kernel_rfl) (by kernel_rfl) ?_
      have ok58 : DryNodes_v1 m ps vs a = false := by unfold DryNodes_v1; rw [q18, Bool.and_false]
      exact fin_ints (zs := []) (World.ownsRow_nil _ _ _ _) (by unfold DryNodes_v0; rw [if_neg (by rw [ok58]; simp)]) ok58.symm c57
  · rw [q14]
    refine W.sq (v := .bool true) rfl (r_not (b := false) rfl (by kernel_rfl) rfl) (by kernel_rfl) rfl rfl ?_
    refine W.sq (v := .bool true) rfl (r_move rfl (by kernel_rfl)) (by kernel_rfl) rfl rfl ?_
    refine W.sk s13 rfl (by kernel_rfl) rfl rfl ?_
    refine W.sk s13 rfl (by kernel_rfl) rfl rfl ?_
    refine W.sk s13 rfl (by kernel_rfl) rfl rfl ?_
    refine W.sk s13 rfl (by kernel_rfl) rfl rfl ?_
    refine W.sq (v := .bool true) rfl (r_pick (b := true) rfl (by kernel_rfl) (by kernel_rfl)) (by kernel_rfl) rfl rfl ?_
    refine W.sch_endU (fun U59 => [.agg #[.int .i64 m, .slice A n c], .slice A2 n2 c2, .int .i64 a, .pointer (some ⟨b2, 0, none⟩), undef, undef, .slice none 0 0, .bool false, undef, undef, U59 10, U59 11, U59 12, U59 13, U59 14, undef, undef, undef, undef, .bool true, undef, undef, undef, undef, undef, undef, undef, undef, undef, undef]) (by kernel_rfl) (fun U59 => ?_)
    have x6 := SG.blk s13 x6 (by simp)
    have c60 := (SG.belowR c9 s13 (fun kq e => by cases e))
    refine h3 _ _ ?_
    refine wp_cond_true (by kernel_rfl) ?_
    refine wp_seq_k (fun K7 h7 => ?_)
    refine W.region_quiet [(0, false), (1, false)] (by kernel_rfl) ?_
    refine W.sq (v := .slice none 0 0) rfl (r_assign rfl (by kernel_rfl)) (by kernel_rfl) rfl rfl ?_
    refine W.sq (v := .bool false) rfl (r_assign rfl (by kernel_rfl)) (by kernel_rfl) rfl rfl ?_
    refine W.sch_end (l' := [.agg #[.int .i64 m, .slice A n c], .slice A2 n2 c2, .int .i64 a, .pointer (some ⟨b2, 0, none⟩), undef, undef, .slice none 0 0, .bool false, undef, undef, (U59 10), (U59 11), (U59 12), (U59 13), (U59 14), undef, undef, undef, undef, .bool true, undef, undef, undef, undef, undef, undef, undef, undef, undef, undef]) (by kernel_rfl) ?_
    refine h7 _ _ ?_
    refine wp_ret ?_
    try simp only [Exit.then]
    refine ret2 (v := .slice none 0 0) (x := .bool false) rfl (by kernel_rfl) (by kernel_rfl) ?_
    have ok61 : DryNodes_v1 m ps vs a = false := by unfold DryNodes_v1; rw [q14]; rfl
    exact fin_ints (zs := []) (World.ownsRow_nil _ _ _ _) (by unfold DryNodes_v0; rw [if_neg (by rw [ok61]; simp)]) ok61.symm c60

def DryPipes_v1 (m : Int) (ps : List Pp) (vs : List Vv) (a : Int) : Bool := goodV m ps vs && inB a 1 m
noncomputable def DryPipes_v0 (m : Int) (ps : List Pp) (vs : List Vv) (a : Int) : List Int := if DryPipes_v1 m ps vs a = true then idsAt ps (idxL (linked ps (openQ vs true)) ps.length a false) else []
theorem DryPipes_len (m : Int) (ps : List Pp) (vs : List Vv) (a : Int) : (DryPipes_v0 m ps vs a).length ≤ 1048576 := by
  unfold DryPipes_v0
  split
  · rename_i h
    have hg : goodV m ps vs = true := by unfold DryPipes_v1 at h; rw [Bool.and_eq_true] at h; exact h.1
    have hv := goodV_of hg
    have h1 := hv.net.hi
    have h2 := hv.net.len
    rw [idsAt_len]
    have := idxL_len (linked ps (openQ vs true)) ps.length a false
    omega
  · simp

set_option maxRecDepth 100000 in
set_option maxHeartbeats 1000000 in
theorem DryPipes_spec (m : Int) (A : Option Addr) (n c : Nat) (ps : List Pp) (A2 : Option Addr) (n2 c2 : Nat) (vs : List Vv) (a : Int) (w : World) (ha : Rd w 4 A n (pipesV ps)) (hb : Rd w 4 A2 n2 (valvesV vs)) (hn : n ≤ 1048576) (hn2 : n2 ≤ 1048576) (hfm : Fm A n c) (hfm2 : Fm A2 n2 c2) :
    Calls Try.prog 40 #[.agg #[.int .i64 m, .slice A n c], .slice A2 n2 c2, .int .i64 a] w fun e w' => ∃ A' d, e = .returned (.tuple #[.slice A' (DryPipes_v0 m ps vs a).length d, .bool (DryPipes_v1 m ps vs a)]) ∧ Rd w' 1 A' (DryPipes_v0 m ps vs a).length (intsV (DryPipes_v0 m ps vs a)) ∧ Below w.heap.size w w' := by
  have hl := rd_pipes_len ha
  have hl2 := rd_valves_len hb
  go_enter Try.func40, Try.ntmps40
  refine wp_seq_k (fun K1 h1 => ?_)
  refine W.region_plain (row := none) [(0, true), (1, false), (2, false)] (by kernel_rfl) ?_
  have s1 := SG.self w none
  refine W.sn (fun b => .pointer (some ⟨b, 0, none⟩)) #[.int .i64 m, .slice A n c] 31 s1 rfl (by kernel_rfl) rfl (fun _ => by kernel_rfl) (fun b2 w3 hb4 k5 x6 s7 => ?_)
  have lo8 : w.heap.size ≤ b2 := by have := ((SG.belowR (Below.refl _ _) s1 (fun kq e => by cases e))).size; omega
  refine W.sq (v := .slice none 0 0) rfl (r_assign rfl (by kernel_rfl)) (by kernel_rfl) rfl rfl ?_
  refine W.sq (v := .bool false) rfl (r_assign rfl (by kernel_rfl)) (by kernel_rfl) rfl rfl ?_
  refine W.sch_end (l' := [.agg #[.int .i64 m, .slice A n c], .slice A2 n2 c2, .int .i64 a, .pointer (some ⟨b2, 0, none⟩), undef, undef, .slice none 0 0, .bool false, undef, undef, undef, undef, undef, undef, undef, undef, undef, undef, undef, undef, undef, undef, undef, undef, undef, undef, undef, undef, undef, undef, undef]) (by kernel_rfl) ?_
  have c9 := (SG.belowR (Below.refl _ _) s7 (fun kq e => by cases e))
  refine h1 _ _ ?_
  refine wp_seq_k (fun K2 h2 => ?_)
  refine wp_seq_k (fun K3 h3 => ?_)
  refine W.region_plain (row := none) [(0, false), (1, false), (2, true), (3, false), (4, false), (5, false), (6, false), (7, true), (8, false), (9, false)] (by kernel_rfl) ?_
  have s10 := SG.self w3 none
  refine W.sq (v := .agg #[.int .i64 m, .slice A n c]) rfl (r_load2 rfl (by kernel_rfl) (by kernel_rfl) (by kernel_rfl) (sgS (blk_cell (j := 0) x6 (by kernel_rfl)) (by simp)) (sgS (blk_cell (j := 1) x6 (by kernel_rfl)) (by simp))) (by kernel_rfl) rfl rfl ?_
  refine W.sq (v := .slice A2 n2 c2) rfl (r_move rfl (by kernel_rfl)) (by kernel_rfl) rfl rfl ?_
  refine W.sc (vs := [.agg #[.int .i64 m, .slice A n c], .slice A2 n2 c2]) rfl rfl (by kernel_rfl) (by kernel_rfl) (by kernel_rfl) rfl (l4Good_any m A n c ps A2 n2 c2 vs _ (Rd.kept ha (SG.belowR c9 s10 (fun kq e => by cases e))) (Rd.kept hb (SG.belowR c9 s10 (fun kq e => by cases e))) (by omega) (by omega)) ?_
  rintro e w12 ⟨rfl, b11⟩
  have s13 := SG.of_below s10 b11
  refine ⟨_, rfl, s13, ?_⟩
  rcases Bool.eq_false_or_eq_true (goodV m ps vs) with q14 | q14
  · rw [q14]
    have hv9 := goodV_of q14
    have hg := hv9.net
    have hgl := hg.lo
    have hgh := hg.hi
    have hp := hg.pipesIn
    have hlen10 := hg.len
    have hu := hv9.uniq
    have hvl := hv9.len
    refine W.sq (v := .bool false) rfl (r_not (b := true) rfl (by kernel_rfl) rfl) (by kernel_rfl) rfl rfl ?_
    refine W.sq (v := .bool false) rfl (r_move rfl (by kernel_rfl)) (by kernel_rfl) rfl rfl ?_
    refine W.sq (v := .agg #[.int .i64 m, .slice A n c]) rfl (r_load2 rfl (by kernel_rfl) (by kernel_rfl) (by kernel_rfl) (sgS (blk_cell (j := 0) x6 (by kernel_rfl)) (by simp)) (sgS (blk_cell (j := 1) x6 (by kernel_rfl)) (by simp))) (by kernel_rfl) rfl rfl ?_
    refine W.sq (v := .int .i64 a) rfl (r_move rfl (by kernel_rfl)) (by kernel_rfl) rfl rfl ?_
    refine W.sc (vs := [.agg #[.int .i64 m, .slice A n c], .int .i64 a]) rfl rfl (by kernel_rfl) (by kernel_rfl) (by kernel_rfl) rfl (l2Node_any m A n c ps a _ (Rd.kept ha (SG.belowR c9 s13 (fun kq e => by cases e))) (by omega)) ?_
    rintro e w16 ⟨rfl, b15⟩
    have s17 := SG.of_below s13 b15
    refine ⟨_, rfl, s17, ?_⟩
    rcases Bool.eq_false_or_eq_true (goodN m ps && inB a 1 m) with q18 | q18
    · rw [q18]
      have q19 : inB a 1 m = true := (Bool.and_eq_true_iff.1 q18).2
      have ha9 := inB_iff.1 q19
      refine W.sq (v := .bool false) rfl (r_not (b := true) rfl (by kernel_rfl) rfl) (by kernel_rfl) rfl rfl ?_
      refine W.sq (v := .bool false) rfl (r_pick (b := false) rfl (by kernel_rfl) (by kernel_rfl)) (by kernel_rfl) rfl rfl ?_
      refine W.sch_endU (fun U20 => [.agg #[.int .i64 m, .slice A n c], .slice A2 n2 c2, .int .i64 a, .pointer (some ⟨b2, 0, none⟩), undef, undef, .slice none 0 0, .bool false, undef, undef, U20 10, U20 11, U20 12, U20 13, U20 14, U20 15, U20 16, U20 17, U20 18, .bool false, undef, undef, undef, undef, undef, undef, undef, undef, undef, undef, undef]) (by kernel_rfl) (fun U20 => ?_)
      have x6 := SG.blk s17 x6 (by simp)
      have c21 := (SG.belowR c9 s17 (fun kq e => by cases e))
      refine h3 _ _ ?_
      refine wp_cond_false (by kernel_rfl) ?_
      refine wp_skip ?_
      refine h2 _ _ ?_
      refine wp_seq_k (fun K4 h4 => ?_)
      refine W.region_plain (row := none) [(0, false), (1, false), (2, false), (3, true), (4, false), (5, false), (6, false), (7, false), (8, false)] (by kernel_rfl) ?_
      have s22 := SG.self w16 none
      refine W.sq (v := .agg #[.int .i64 m, .slice A n c]) rfl (r_load2 rfl (by kernel_rfl) (by kernel_rfl) (by kernel_rfl) (sgS (blk_cell (j := 0) x6 (by kernel_rfl)) (by simp)) (sgS (blk_cell (j := 1) x6 (by kernel_rfl)) (by simp))) (by kernel_rfl) rfl rfl ?_
      refine W.sq (v := .slice A2 n2 c2) rfl (r_move rfl (by kernel_rfl)) (by kernel_rfl) rfl rfl ?_
      refine W.sq (v := .int .i64 a) rfl (r_move rfl (by kernel_rfl)) (by kernel_rfl) rfl rfl ?_
      refine W.sc (vs := [.agg #[.int .i64 m, .slice A n c], .slice A2 n2 c2, .int .i64 a]) rfl rfl (by kernel_rfl) (by kernel_rfl) (by kernel_rfl) rfl (l4Dry_any m A n c ps A2 n2 c2 vs a _ (Rd.kept ha (SG.belowR c21 s22 (fun kq e => by cases e))) (Rd.kept hb (SG.belowR c21 s22 (fun kq e => by cases e))) (by omega) (by omega) hp (by omega) (by omega) (by omega)) ?_
      rintro e w38 ⟨A23, n24, c25, A26, n27, c28, rfl, rd29, fm30, rd31, fm32, b37⟩
      have s39 := SG.of_below s22 b37
      refine ⟨_, rfl, s39, ?_⟩
      have hl35 := rd_ints_len rd29
      have hl36 := rd_ints_len rd31
      have := nodesL_len (linked ps (openQ vs true)) m.toNat a false
      have := idxL_len (linked ps (openQ vs true)) ps.length a false
      refine W.sq (v := .tuple #[.slice A23 n24 c25, .slice A26 n27 c28]) rfl (r_move rfl (by kernel_rfl)) (by kernel_rfl) rfl rfl ?_
      refine W.sq (v := .slice A23 n24 c25) rfl (r_extract (vs := #[.slice A23 n24 c25, .slice A26 n27 c28]) rfl (by kernel_rfl) (by kernel_rfl)) (by kernel_rfl) rfl rfl ?_
      refine W.sq (v := .slice A26 n27 c28) rfl (r_extract (vs := #[.slice A23 n24 c25, .slice A26 n27 c28]) rfl (by kernel_rfl) (by kernel_rfl)) (by kernel_rfl) rfl rfl ?_
      refine W.sq (v := .slice A23 n24 c25) rfl (r_assign rfl (by kernel_rfl)) (by kernel_rfl) rfl rfl ?_
      refine W.sq (v := .slice A26 n27 c28) rfl (r_assign rfl (by kernel_rfl)) (by kernel_rfl) rfl rfl ?_
      refine W.sch_endU (fun U40 => [.agg #[.int .i64 m, .slice A n c], .slice A2 n2 c2, .int .i64 a, .pointer (some ⟨b2, 0, none⟩), undef, undef, .slice none 0 0, .bool false, U40 8, .slice A26 n27 c28, (U20 10), (U20 11), (U20 12), (U20 13), (U20 14), (U20 15), (U20 16), (U20 17), (U20 18), .bool false, undef, U40 21, U40 22, U40 23, U40 24, U40 25, U40 26, U40 27, undef, undef, undef]) (by kernel_rfl) (fun U40 => ?_)
      have x6 := SG.blk s39 x6 (by simp)
      have c41 := (SG.belowR c21 s39 (fun kq e => by cases e))
      refine h4 _ _ ?_
      refine wp_seq_k (fun K5 h5 => ?_)
      refine W.region_plain (row := none) [(0, false), (1, false), (2, true), (3, false), (4, false)] (by kernel_rfl) ?_
      have s42 := SG.self w38 none
      refine W.sq (v := .agg #[.int .i64 m, .slice A n c]) rfl (r_load2 rfl (by kernel_rfl) (by kernel_rfl) (by kernel_rfl) (sgS (blk_cell (j := 0) x6 (by kernel_rfl)) (by simp)) (sgS (blk_cell (j := 1) x6 (by kernel_rfl)) (by simp))) (by kernel_rfl) rfl rfl ?_
      refine W.sq (v := .slice A26 n27 c28) rfl (r_move rfl (by kernel_rfl)) (by kernel_rfl) rfl rfl ?_
      refine W.sc (vs := [.agg #[.int .i64 m, .slice A n c], .slice A26 n27 c28]) rfl rfl (by kernel_rfl) (by kernel_rfl) (by kernel_rfl) rfl (l4Ids_any m A n c ps A26 n27 c28 (idxL (linked ps (openQ vs true)) ps.length a false) _ (Rd.kept ha (SG.belowR c41 s42 (fun kq e => by cases e))) (by omega) (Rd.kept rd31 (SG.below s42)) (by omega) (fun y hy => (mem_idxL.1 hy).1)) ?_
      rintro e w51 ⟨A43, n44, c45, rfl, rd46, fm47, b50⟩
      have s52 := SG.of_below s42 b50
      refine ⟨_, rfl, s52, ?_⟩
      have hl48 := rd_ints_len rd46
      refine W.sq (v := .slice A43 n44 c45) rfl (r_assign rfl (by kernel_rfl)) (by kernel_rfl) rfl rfl ?_
      refine W.sq (v := .bool true) rfl (r_assign rfl (by kernel_rfl)) (by kernel_rfl) rfl rfl ?_
      refine W.sch_endU (fun U53 => [.agg #[.int .i64 m, .slice A n c], .slice A2 n2 c2, .int .i64 a, .pointer (some ⟨b2, 0, none⟩), undef, undef, .slice A43 n44 c45, .bool true, (U40 8), .slice A26 n27 c28, (U20 10), (U20 11), (U20 12), (U20 13), (U20 14), (U20 15), (U20 16), (U20 17), (U20 18), .bool false, undef, (U40 21), (U40 22), (U40 23), (U40 24), (U40 25), (U40 26), (U40 27), U53 28, U53 29, U53 30]) (by kernel_rfl) (fun U53 => ?_)
      have x6 := SG.blk s52 x6 (by simp)
      have c54 := (SG.belowR c41 s52 (fun kq e => by cases e))
      have rd55 := Rd.kept rd29 (SG.below s52)
      have rd56 := Rd.kept rd31 (SG.below s52)
      refine h5 _ _ ?_
      refine wp_ret ?_
      try simp only [Exit.then]
      refine ret2 (v := .slice A43 n44 c45) (x := .bool true) rfl (by kernel_rfl) (by kernel_rfl) ?_
      have ok57 : DryPipes_v1 m ps vs a = true := by unfold DryPipes_v1; rw [q14, q19]; rfl
      exact fin_rd  rd46 (by unfold DryPipes_v0; rw [if_pos ok57]) ok57.symm c54
    · rw [q18]
      have q58 : inB a 1 m = false := by have h9 := q18; rw [hv9.good, Bool.true_and] at h9; exact h9
      refine W.sq (v := .bool true) rfl (r_not (b := false) rfl (by kernel_rfl) rfl) (by kernel_rfl) rfl rfl ?_
      refine W.sq (v := .bool true) rfl (r_pick (b := false) rfl (by kernel_rfl) (by kernel_rfl)) (by kernel_rfl) rfl rfl ?_
      refine W.sch_endU (fun U59 => [.agg #[.int .i64 m, .slice A n c], .slice A2 n2 c2, .int .i64 a, .pointer (some ⟨b2, 0, none⟩), undef, undef, .slice none 0 0, .bool false, undef, undef, U59 10, U59 11, U59 12, U59 13, U59 14, U59 15, U59 16, U59 17, U59 18, .bool true, undef, undef, undef, undef, undef, undef, undef, undef, undef, undef, undef]) (by kernel_rfl) (fun U59 => ?_)
      have x6 := SG.blk s17 x6 (by simp)
      have c60 := (SG.belowR c9 s17 (fun kq e => by cases e))
      refine h3 _ _ ?_
      refine wp_cond_true (by kernel_rfl) ?_
      refine wp_seq_k (fun K6 h6 => ?_)
      refine W.region_plain (row := none) [(0, true), (1, false), (2, false)] (by kernel_rfl) ?_
      have s61 := SG.self w16 none
      refine W.sn (fun b => .slice (some ⟨b, 0, none⟩) 0 0) #[] 3 s61 rfl (by kernel_rfl) rfl (fun _ => by kernel_rfl) (fun b62 w63 hb64 k65 x66 s67 => ?_)
      have lo68 : w.heap.size ≤ b62 := by have := ((SG.belowR c60 s61 (fun kq e => by cases e))).size; omega
      have ne69 : b2 ≠ b62 := by have := blk_lt x6; have := World.grownBy.size s61; omega
      refine W.sq (v := .slice (some ⟨b62, 0, none⟩) 0 0) rfl (r_assign rfl (by kernel_rfl)) (by kernel_rfl) rfl rfl ?_
      refine W.sq (v := .bool false) rfl (r_assign rfl (by kernel_rfl)) (by kernel_rfl) rfl rfl ?_
      refine W.sch_endU (fun U70 => [.agg #[.int .i64 m, .slice A n c], .slice A2 n2 c2, .int .i64 a, .pointer (some ⟨b2, 0, none⟩), undef, undef, .slice (some ⟨b62, 0, none⟩) 0 0, .bool false, undef, undef, (U59 10), (U59 11), (U59 12), (U59 13), (U59 14), (U59 15), (U59 16), (U59 17), (U59 18), .bool true, U70 20, undef, undef, undef, undef, undef, undef, undef, undef, undef, undef]) (by kernel_rfl) (fun U70 => ?_)
      have x6 := SG.blk s67 x6 (by simp)
      have c71 := (SG.belowR c60 s67 (fun kq e => by cases e))
      refine h6 _ _ ?_
      refine wp_ret ?_
      try simp only [Exit.then]
      refine ret2 (v := .slice (some ⟨b62, 0, none⟩) 0 0) (x := .bool false) rfl (by kernel_rfl) (by kernel_rfl) ?_
      have ok72 : DryPipes_v1 m ps vs a = false := by unfold DryPipes_v1; rw [q58, Bool.and_false]
      have ho73 := own_empty (base := w.heap.size) (size := 1) x66 lo68
      replace ho73 : World.ownsRow _ _ _ _ _ _ (intsV []) := ho73
      have nb74 : Nb b2 (.slice (some ⟨b62, 0, none⟩) 0 0) := nb_new (by have := ne69; omega)
      exact fin_rd (zs := []) (own_rd ho73) (by unfold DryPipes_v0; rw [if_neg (by rw [ok72]; simp)]) ok72.symm c71
  · rw [q14]
    refine W.sq (v := .bool true) rfl (r_not (b := false) rfl (by kernel_rfl) rfl) (by kernel_rfl) rfl rfl ?_
    refine W.sq (v := .bool true) rfl (r_move rfl (by kernel_rfl)) (by kernel_rfl) rfl rfl ?_
    refine W.sk s13 rfl (by kernel_rfl) rfl rfl ?_
    refine W.sk s13 rfl (by kernel_rfl) rfl rfl ?_
    refine W.sk s13 rfl (by kernel_rfl) rfl rfl ?_
    refine W.sk s13 rfl (by kernel_rfl) rfl rfl ?_
    refine W.sq (v := .bool true) rfl (r_pick (b := true) rfl (by kernel_rfl) (by kernel_rfl)) (by kernel_rfl) rfl rfl ?_
    refine W.sch_endU (fun U75 => [.agg #[.int .i64 m, .slice A n c], .slice A2 n2 c2, .int .i64 a, .pointer (some ⟨b2, 0, none⟩), undef, undef, .slice none 0 0, .bool false, undef, undef, U75 10, U75 11, U75 12, U75 13, U75 14, undef, undef, undef, undef, .bool true, undef, undef, undef, undef, undef, undef, undef, undef, undef, undef, undef]) (by kernel_rfl) (fun U75 => ?_)
    have x6 := SG.blk s13 x6 (by simp)
    have c76 := (SG.belowR c9 s13 (fun kq e => by cases e))
    refine h3 _ _ ?_
    refine wp_cond_true (by kernel_rfl) ?_
    refine wp_seq_k (fun K7 h7 => ?_)
    refine W.region_plain (row := none) [(0, true), (1, false), (2, false)] (by kernel_rfl) ?_
    have s77 := SG.self w12 none
    refine W.sn (fun b => .slice (some ⟨b, 0, none⟩) 0 0) #[] 3 s77 rfl (by kernel_rfl) rfl (fun _ => by kernel_rfl) (fun b78 w79 hb80 k81 x82 s83 => ?_)
    have lo84 : w.heap.size ≤ b78 := by have := ((SG.belowR c76 s77 (fun kq e => by cases e))).size; omega
    have ne85 : b2 ≠ b78 := by have := blk_lt x6; have := World.grownBy.size s77; omega
    refine W.sq (v := .slice (some ⟨b78, 0, none⟩) 0 0) rfl (r_assign rfl (by kernel_rfl)) (by kernel_rfl) rfl rfl ?_
    refine W.sq (v := .bool false) rfl (r_assign rfl (by kernel_rfl)) (by kernel_rfl) rfl rfl ?_
    refine W.sch_endU (fun U86 => [.agg #[.int .i64 m, .slice A n c], .slice A2 n2 c2, .int .i64 a, .pointer (some ⟨b2, 0, none⟩), undef, undef, .slice (some ⟨b78, 0, none⟩) 0 0, .bool false, undef, undef, (U75 10), (U75 11), (U75 12), (U75 13), (U75 14), undef, undef, undef, undef, .bool true, U86 20, undef, undef, undef, undef, undef, undef, undef, undef, undef, undef]) (by kernel_rfl) (fun U86 => ?_)
    have x6 := SG.blk s83 x6 (by simp)
    have c87 := (SG.belowR c76 s83 (fun kq e => by cases e))
    refine h7 _ _ ?_
    refine wp_ret ?_
    try simp only [Exit.then]
    refine ret2 (v := .slice (some ⟨b78, 0, none⟩) 0 0) (x := .bool false) rfl (by kernel_rfl) (by kernel_rfl) ?_
    have ok88 : DryPipes_v1 m ps vs a = false := by unfold DryPipes_v1; rw [q14]; rfl
    have ho89 := own_empty (base := w.heap.size) (size := 1) x82 lo84
    replace ho89 : World.ownsRow _ _ _ _ _ _ (intsV []) := ho89
    have nb90 : Nb b2 (.slice (some ⟨b78, 0, none⟩) 0 0) := nb_new (by have := ne85; omega)
    exact fin_rd (zs := []) (own_rd ho89) (by unfold DryPipes_v0; rw [if_neg (by rw [ok88]; simp)]) ok88.symm c87

set_option maxRecDepth 100000 in
set_option maxHeartbeats 1000000 in
theorem DryPipes_impl (m : Int) (A : Option Addr) (n c : Nat) (ps : List Pp) (A2 : Option Addr) (n2 c2 : Nat) (vs : List Vv) (a : Int) (w : World) (ha : Rd w 4 A n (pipesV ps)) (hb : Rd w 4 A2 n2 (valvesV vs)) (hn : n ≤ 1048576) (hn2 : n2 ≤ 1048576) (hfm : Fm A n c) (hfm2 : Fm A2 n2 c2) :
    Calls Try.prog 41 #[.agg #[.int .i64 m, .slice A n c], .slice A2 n2 c2, .int .i64 a] w fun e w' => ∃ A' d, e = .returned (.tuple #[.slice A' (DryPipes_v0 m ps vs a).length d, .bool (DryPipes_v1 m ps vs a)]) ∧ w'.ownsRow w.heap.size 3 1 (.slice A' (DryPipes_v0 m ps vs a).length d) (DryPipes_v0 m ps vs a).length (intsV (DryPipes_v0 m ps vs a)) ∧ Below w.heap.size w w' := by
  have hl := rd_pipes_len ha
  have hl2 := rd_valves_len hb
  go_enter Try.func41, Try.ntmps41
  refine wp_seq_k (fun K1 h1 => ?_)
  refine W.region_plain (row := none) [(0, true), (1, false), (2, false)] (by kernel_rfl) ?_
  have s1 := SG.self w none
  refine W.sn (fun b => .pointer (some ⟨b, 0, none⟩)) #[.int .i64 m, .slice A n c] 31 s1 rfl (by kernel_rfl) rfl (fun _ => by kernel_rfl) (fun b2 w3 hb4 k5 x6 s7 => ?_)
  have lo8 : w.heap.size ≤ b2 := by have := ((SG.belowR (Below.refl _ _) s1 (fun kq e => by cases e))).size; omega
  refine W.sq (v := .slice none 0 0) rfl (r_assign rfl (by kernel_rfl)) (by kernel_rfl) rfl rfl ?_
  refine W.sq (v := .bool false) rfl (r_assign rfl (by kernel_rfl)) (by kernel_rfl) rfl rfl ?_
  refine W.sch_end (l' := [.agg #[.int .i64 m, .slice A n c], .slice A2 n2 c2, .int .i64 a, .pointer (some ⟨b2, 0, none⟩), undef, undef, .slice none 0 0, .bool false, undef, undef, undef, undef, undef, undef, undef, undef, undef, undef, undef, undef, undef, undef, undef, undef, undef, undef, undef, undef, undef, undef]) (by kernel_rfl) ?_
  have c9 := (SG.belowR (Below.refl _ _) s7 (fun kq e => by cases e))
  refine h1 _ _ ?_
  refine wp_seq_k (fun K2 h2 => ?_)
  refine wp_seq_k (fun K3 h3 => ?_)
  refine W.region_plain (row := none) [(0, false), (1, false), (2, true), (3, false), (4, false), (5, false), (6, false), (7, true), (8, false), (9, false)] (by kernel_rfl) ?_
  have s10 := SG.self w3 none
  refine W.sq (v := .agg #[.int .i64 m, .slice A n c]) rfl (r_load2 rfl (by kernel_rfl) (by kernel_rfl) (by kernel_rfl) (sgS (blk_cell (j := 0) x6 (by kernel_rfl)) (by simp)) (sgS (blk_cell (j := 1) x6 (by kernel_rfl)) (by simp))) (by kernel_rfl) rfl rfl ?_
  refine W.sq (v := .slice A2 n2 c2) rfl (r_move rfl (by kernel_rfl)) (by kernel_rfl) rfl rfl ?_
  refine W.sc (vs := [.agg #[.int .i64 m, .slice A n c], .slice A2 n2 c2]) rfl rfl (by kernel_rfl) (by kernel_rfl) (by kernel_rfl) rfl (IsValidValves_any m A n c ps A2 n2 c2 vs _ (Rd.kept ha (SG.belowR c9 s10 (fun kq e => by cases e))) (Rd.kept hb (SG.belowR c9 s10 (fun kq e => by cases e))) (by omega) (by omega) hfm2) ?_
  rintro e w12 ⟨rfl, b11⟩
  have s13 := SG.of_below s10 b11
  refine ⟨_, rfl, s13, ?_⟩
  rcases Bool.eq_false_or_eq_true (goodV m ps vs) with q14 | q14
  · rw [q14]
    have hv9 := goodV_of q14
    have hg := hv9.net
    have hgl := hg.lo
    have hgh := hg.hi
    have hp := hg.pipesIn
    have hlen10 := hg.len
    have hu := hv9.uniq
    have hvl := hv9.len
    refine W.sq (v := .bool false) rfl (r_not (b := true) rfl (by kernel_rfl) rfl) (by kernel_rfl) rfl rfl ?_
    refine W.sq (v := .bool false) rfl (r_move rfl (by kernel_rfl)) (by kernel_rfl) rfl rfl ?_
    refine W.sq (v := .agg #[.int .i64 m, .slice A n c]) rfl (r_load2 rfl (by kernel_rfl) (by kernel_rfl) (by kernel_rfl) (sgS (blk_cell (j := 0) x6 (by kernel_rfl)) (by simp)) (sgS (blk_cell (j := 1) x6 (by kernel_rfl)) (by simp))) (by kernel_rfl) rfl rfl ?_
    refine W.sq (v := .int .i64 a) rfl (r_move rfl (by kernel_rfl)) (by kernel_rfl) rfl rfl ?_
    refine W.sc (vs := [.agg #[.int .i64 m, .slice A n c], .int .i64 a]) rfl rfl (by kernel_rfl) (by kernel_rfl) (by kernel_rfl) rfl (has_any m A n c ps a _) ?_
    rintro e w16 ⟨rfl, b15⟩
    have s17 := SG.of_below s13 b15
    refine ⟨_, rfl, s17, ?_⟩
    rcases Bool.eq_false_or_eq_true (inB a 1 m) with q18 | q18
    · rw [q18]
      have ha9 := inB_iff.1 q18
      refine W.sq (v := .bool false) rfl (r_not (b := true) rfl (by kernel_rfl) rfl) (by kernel_rfl) rfl rfl ?_
      refine W.sq (v := .bool false) rfl (r_pick (b := false) rfl (by kernel_rfl) (by kernel_rfl)) (by kernel_rfl) rfl rfl ?_
      refine W.sch_endU (fun U19 => [.agg #[.int .i64 m, .slice A n c], .slice A2 n2 c2, .int .i64 a, .pointer (some ⟨b2, 0, none⟩), undef, undef, .slice none 0 0, .bool false, undef, undef, U19 10, U19 11, U19 12, U19 13, U19 14, U19 15, U19 16, U19 17, U19 18, .bool false, undef, undef, undef, undef, undef, undef, undef, undef, undef, undef]) (by kernel_rfl) (fun U19 => ?_)
      have x6 := SG.blk s17 x6 (by simp)
      have c20 := (SG.belowR c9 s17 (fun kq e => by cases e))
      refine h3 _ _ ?_
      refine wp_cond_false (by kernel_rfl) ?_
      refine wp_skip ?_
      refine h2 _ _ ?_
      refine wp_seq_k (fun K4 h4 => ?_)
      refine W.region_sch (row := none) (Sch.of [(0, false), (1, false), (2, false), (3, false), (4, true), (5, true), (6, false), (7, false), (8, false), (9, false), (10, false)]) (by kernel_rfl) (by kernel_rfl) (fun _ d _ _ _ h => by cases d <;> exact h) (by kernel_rfl) (fun w21 e22 s23 => ?_)
      refine W.sq (v := .agg #[.int .i64 m, .slice A n c]) rfl (r_load2 rfl (by kernel_rfl) (by kernel_rfl) (by kernel_rfl) (sgS (blk_cell (j := 0) x6 (by kernel_rfl)) (by simp)) (sgS (blk_cell (j := 1) x6 (by kernel_rfl)) (by simp))) (by kernel_rfl) rfl rfl ?_
      refine W.sq (v := .agg #[.int .i64 m, .slice A n c]) rfl (r_load2 rfl (by kernel_rfl) (by kernel_rfl) (by kernel_rfl) (sgS (blk_cell (j := 0) x6 (by kernel_rfl)) (by simp)) (sgS (blk_cell (j := 1) x6 (by kernel_rfl)) (by simp))) (by kernel_rfl) rfl rfl ?_
      refine W.sq (v := .slice A2 n2 c2) rfl (r_move rfl (by kernel_rfl)) (by kernel_rfl) rfl rfl ?_
      refine W.sq (v := .int .i64 a) rfl (r_move rfl (by kernel_rfl)) (by kernel_rfl) rfl rfl ?_
      refine W.sc (vs := [.agg #[.int .i64 m, .slice A n c], .slice A2 n2 c2, .int .i64 a]) rfl rfl (by kernel_rfl) (by kernel_rfl) (by kernel_rfl) rfl (watered_any m A n c ps A2 n2 c2 vs (a) (a).toNat _ (Rd.kept ha (SG.belowR c20 s23 (fun kq e => by cases e))) (Rd.kept hb (SG.belowR c20 s23 (fun kq e => by cases e))) (by omega) (by omega) hp (by omega) (by omega) hu (by omega) (by omega)) ?_
      rintro e w30 ⟨pb24, rfl, lo28, rd25, b29⟩
      have s31 := SG.of_below s23 b29
      refine ⟨_, rfl, s31, ?_⟩
      have hl26 := rd_bools_len rd25
      rw [wetL_len] at hl26
      have hl26 : (wetL (linked ps (openQ vs true)) (a)).length = 19 := wetL_len _ _
      have z43 := ((SG.belowR c20 s31 (fun kq e => by cases e))).size
      refine W.sc (vs := [.agg #[.int .i64 m, .slice A n c], .pointer (some ⟨pb24, 0, none⟩), .bool false]) rfl rfl (by kernel_rfl) (by kernel_rfl) (by kernel_rfl) rfl (nodesAndPipes_any m A n c ps pb24 false (linked ps (openQ vs true)) (a) _ (Rd.kept ha (SG.belowR c20 s31 (fun kq e => by cases e))) (by omega) (by omega) (by omega) rd25) ?_
      rintro e w47 ⟨A32, n33, c34, A35, n36, c37, rfl, ho38, ho39, nr40, b46⟩
      have s48 := SG.of_below s31 b46
      refine ⟨_, rfl, s48, ?_⟩
      have rd49 := Rd.kept rd25 b46
      have ho41 := own_base (base' := w.heap.size) ho38 z43
      have hlr44 := rd_ints_len (own_rd ho41)
      have nb50 : Nb b2 (.slice A32 n33 c34) := nb_lo ho38 (Nat.lt_of_lt_of_le (blk_lt x6) (World.grownBy.size s31))
      have ho42 := own_base (base' := w.heap.size) ho39 z43
      have hlr45 := rd_ints_len (own_rd ho42)
      have nb51 : Nb b2 (.slice A35 n36 c37) := nb_lo ho39 (Nat.lt_of_lt_of_le (blk_lt x6) (World.grownBy.size s31))
      refine W.sq (v := .tuple #[.slice A32 n33 c34, .slice A35 n36 c37]) rfl (r_move rfl (by kernel_rfl)) (by kernel_rfl) rfl rfl ?_
      refine W.sq (v := .slice A32 n33 c34) rfl (r_extract (vs := #[.slice A32 n33 c34, .slice A35 n36 c37]) rfl (by kernel_rfl) (by kernel_rfl)) (by kernel_rfl) rfl rfl ?_
      refine W.sq (v := .slice A35 n36 c37) rfl (r_extract (vs := #[.slice A32 n33 c34, .slice A35 n36 c37]) rfl (by kernel_rfl) (by kernel_rfl)) (by kernel_rfl) rfl rfl ?_
      refine W.sq (v := .slice A32 n33 c34) rfl (r_assign rfl (by kernel_rfl)) (by kernel_rfl) rfl rfl ?_
      refine W.sq (v := .slice A35 n36 c37) rfl (r_assign rfl (by kernel_rfl)) (by kernel_rfl) rfl rfl ?_
      refine W.sch_endU (fun U52 => [.agg #[.int .i64 m, .slice A n c], .slice A2 n2 c2, .int .i64 a, .pointer (some ⟨b2, 0, none⟩), undef, undef, .slice none 0 0, .bool false, U52 8, .slice A35 n36 c37, (U19 10), (U19 11), (U19 12), (U19 13), (U19 14), (U19 15), (U19 16), (U19 17), (U19 18), .bool false, U52 20, U52 21, U52 22, U52 23, U52 24, U52 25, U52 26, U52 27, U52 28, undef]) (by kernel_rfl) (fun U52 => ?_)
      have x6 := SG.blk s48 x6 (by simp)
      have c53 := (SG.belowR c20 s48 (fun kq e => by cases e))
      refine h4 _ _ ?_
      refine wp_seq_k (fun K5 h5 => ?_)
      refine W.region_quiet [(0, false), (1, false), (2, false)] (by kernel_rfl) ?_
      refine W.sq (v := .slice A35 n36 c37) rfl (r_move rfl (by kernel_rfl)) (by kernel_rfl) rfl rfl ?_
      refine W.sq (v := .slice A35 n36 c37) rfl (r_assign rfl (by kernel_rfl)) (by kernel_rfl) rfl rfl ?_
      refine W.sq (v := .bool true) rfl (r_assign rfl (by kernel_rfl)) (by kernel_rfl) rfl rfl ?_
      refine W.sch_endU (fun U54 => [.agg #[.int .i64 m, .slice A n c], .slice A2 n2 c2, .int .i64 a, .pointer (some ⟨b2, 0, none⟩), undef, undef, .slice A35 n36 c37, .bool true, (U52 8), .slice A35 n36 c37, (U19 10), (U19 11), (U19 12), (U19 13), (U19 14), (U19 15), (U19 16), (U19 17), (U19 18), .bool false, (U52 20), (U52 21), (U52 22), (U52 23), (U52 24), (U52 25), (U52 26), (U52 27), (U52 28), U54 29]) (by kernel_rfl) (fun U54 => ?_)
      refine h5 _ _ ?_
      refine wp_ret ?_
      try simp only [Exit.then]
      refine ret2 (v := .slice A35 n36 c37) (x := .bool true) rfl (by kernel_rfl) (by kernel_rfl) ?_
      have ok55 : DryPipes_v1 m ps vs a = true := by unfold DryPipes_v1; rw [q14, q18]; rfl
      exact fin_ints  ho42 (by unfold DryPipes_v0; rw [if_pos ok55]) ok55.symm c53
    · rw [q18]
      refine W.sq (v := .bool true) rfl (r_not (b := false) rfl (by kernel_rfl) rfl) (by kernel_rfl) rfl rfl ?_
      refine W.sq (v := .bool true) rfl (r_pick (b := false) rfl (by kernel_rfl) (by kernel_rfl)) (by kernel_rfl) rfl rfl ?_
      refine W.sch_endU (fun U56 => [.agg #[.int .i64 m, .slice A n c], .slice A2 n2 c2, .int .i64 a, .pointer (some ⟨b2, 0, none⟩), undef, undef, .slice none 0 0, .bool false, undef, undef, U56 10, U56 11, U56 12, U56 13, U56 14, U56 15, U56 16, U56 17, U56 18, .bool true, undef, undef, undef, undef, undef, undef, undef, undef, undef, undef]) (by kernel_rfl) (fun U56 => ?_)
      have x6 := SG.blk s17 x6 (by simp)
      have c57 := (SG.belowR c9 s17 (fun kq e => by cases e))
      refine h3 _ _ ?_
      refine wp_cond_true (by kernel_rfl) ?_
      refine wp_seq_k (fun K6 h6 => ?_)
      refine W.region_quiet [(0, false), (1, false)] (by kernel_rfl) ?_
      refine W.sq (v := .slice none 0 0) rfl (r_assign rfl (by kernel_rfl)) (by kernel_rfl) rfl rfl ?_
      refine W.sq (v := .bool false) rfl (r_assign rfl (by kernel_rfl)) (by kernel_rfl) rfl rfl ?_
      refine W.sch_end (l' := [.agg #[.int .i64 m, .slice A n c], .slice A2 n2 c2, .int .i64 a, .pointer (some ⟨b2, 0, none⟩), undef, undef, .slice none 0 0, .bool false, undef, undef, (U56 10), (U56 11), (U56 12), (U56 13), (U56 14), (U56 15), (U56 16), (U56 17), (U56 18), .bool true, undef, undef, undef, undef, undef, undef, undef, undef, undef, undef]) (by kernel_rfl) ?_
      refine h6 _ _ ?_
      refine wp_ret ?_
      try simp only [Exit.then]
      refine ret2 (v := .slice none 0 0) (x := .bool false) rfl (by kernel_rfl) (by kernel_rfl) ?_
      have ok58 : DryPipes_v1 m ps vs a = false := by unfold DryPipes_v1; rw [q18, Bool.and_false]
      exact fin_ints (zs := []) (World.ownsRow_nil _ _ _ _) (by unfold DryPipes_v0; rw [if_neg (by rw [ok58]; simp)]) ok58.symm c57
  · rw [q14]
    refine W.sq (v := .bool true) rfl (r_not (b := false) rfl (by kernel_rfl) rfl) (by kernel_rfl) rfl rfl ?_
    refine W.sq (v := .bool true) rfl (r_move rfl (by kernel_rfl)) (by kernel_rfl) rfl rfl ?_
    refine W.sk s13 rfl (by kernel_rfl) rfl rfl ?_
    refine W.sk s13 rfl (by kernel_rfl) rfl rfl ?_
    refine W.sk s13 rfl (by kernel_rfl) rfl rfl ?_
    refine W.sk s13 rfl (by kernel_rfl) rfl rfl ?_
    refine W.sq (v := .bool true) rfl (r_pick (b := true) rfl (by kernel_rfl) (by kernel_rfl)) (by kernel_rfl) rfl rfl ?_
    refine W.sch_endU (fun U59 => [.agg #[.int .i64 m, .slice A n c], .slice A2 n2 c2, .int .i64 a, .pointer (some ⟨b2, 0, none⟩), undef, undef, .slice none 0 0, .bool false, undef, undef, U59 10, U59 11, U59 12, U59 13, U59 14, undef, undef, undef, undef, .bool true, undef, undef, undef, undef, undef, undef, undef, undef, undef, undef]) (by kernel_rfl) (fun U59 => ?_)
    have x6 := SG.blk s13 x6 (by simp)
    have c60 := (SG.belowR c9 s13 (fun kq e => by cases e))
    refine h3 _ _ ?_
    refine wp_cond_true (by kernel_rfl) ?_
    refine wp_seq_k (fun K7 h7 => ?_)
    refine W.region_quiet [(0, false), (1, false)] (by kernel_rfl) ?_
    refine W.sq (v := .slice none 0 0) rfl (r_assign rfl (by kernel_rfl)) (by kernel_rfl) rfl rfl ?_
    refine W.sq (v := .bool false) rfl (r_assign rfl (by kernel_rfl)) (by kernel_rfl) rfl rfl ?_
    refine W.sch_end (l' := [.agg #[.int .i64 m, .slice A n c], .slice A2 n2 c2, .int .i64 a, .pointer (some ⟨b2, 0, none⟩), undef, undef, .slice none 0 0, .bool false, undef, undef, (U59 10), (U59 11), (U59 12), (U59 13), (U59 14), undef, undef, undef, undef, .bool true, undef, undef, undef, undef, undef, undef, undef, undef, undef, undef]) (by kernel_rfl) ?_
    refine h7 _ _ ?_
    refine wp_ret ?_
    try simp only [Exit.then]
    refine ret2 (v := .slice none 0 0) (x := .bool false) rfl (by kernel_rfl) (by kernel_rfl) ?_
    have ok61 : DryPipes_v1 m ps vs a = false := by unfold DryPipes_v1; rw [q14]; rfl
    exact fin_ints (zs := []) (World.ownsRow_nil _ _ _ _) (by unfold DryPipes_v0; rw [if_neg (by rw [ok61]; simp)]) ok61.symm c60

end Go.Proofs.Ythdmbndndfiidaa
