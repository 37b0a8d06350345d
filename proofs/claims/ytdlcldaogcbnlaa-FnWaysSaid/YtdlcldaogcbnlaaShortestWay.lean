/- The shortest way: both packages make one list. -/
import Derived.Test.YtdlcldaogcbnlaaWay
namespace Go.Proofs.Ytdlcldaogcbnlaa
open Go.RowKit
set_option linter.unusedVariables false

theorem distances0_any (m : Int) (A : Option Addr) (n c : Nat) (ps : List Pp) (u : Int) (w : World) (ha : Rd w 4 A n (pipesV ps)) (hn : n ≤ 1048576) (hp : pipesIn ps m.toNat) (hm : 1 ≤ m ∧ m ≤ 8) (hu0 : 1 ≤ u ∧ u ≤ m) (hi0 : ∀ p, p ∈ ps → 1 ≤ p.id) :
    Calls Try.prog 51 #[.agg #[.int .i64 m, .slice A n c], .int .i64 u, .int .i64 0] w fun e w' => ∃ A' n' c', e = .returned (.slice A' n' c') ∧ w'.ownsRow w.heap.size 3 1 (.slice A' n' c') n' (intsV (distList (joined ps) m.toNat u)) ∧ Below w.heap.size w w' := by
  have h := distances_any m A n c ps u 0 w ha hn hp hm hu0
  rw [without_none (fun p h9 => by have := hi0 p h9; omega)] at h
  exact h
noncomputable def ShortestWay_v1 (m : Int) (ps : List Pp) (u v : Int) : Bool := (goodN m ps && inB u 1 m) && (goodN m ps && inB v 1 m) && decide (0 ≤ distOf (joined ps) v u)
noncomputable def ShortestWay_v0 (m : Int) (ps : List Pp) (u v : Int) : List Int := if ShortestWay_v1 m ps u v = true then wayL (distOf (joined ps) v) ps (distOf (joined ps) v u).toNat u else []
theorem ShortestWay_ok {m : Int} {ps : List Pp} {u v : Int} : ShortestWay_v1 m ps u v = true ↔ ((goodN m ps = true ∧ inB u 1 m = true) ∧ goodN m ps = true ∧ inB v 1 m = true) ∧ 0 ≤ distOf (joined ps) v u := by
  unfold ShortestWay_v1
  rw [Bool.and_eq_true, Bool.and_eq_true, Bool.and_eq_true, Bool.and_eq_true, decide_eq_true_iff]
theorem ShortestWay_len (m : Int) (ps : List Pp) (u v : Int) : (ShortestWay_v0 m ps u v).length ≤ 1048576 := by
  unfold ShortestWay_v0
  split
  · rename_i h
    obtain ⟨⟨⟨hg, _⟩, _, hv⟩, h0⟩ := ShortestWay_ok.1 h
    have hg := good_of hg
    have hp := hg.pipesIn
    have h1 := inB_iff.1 hv
    have hlo := hg.lo
    have hhi := hg.hi
    have h2 := dist_lt (joined_symm ps) (joined_in hp) (a := v) (by omega) u
    rw [wayL_len hp _ u (by omega)]
    omega
  · simp
theorem reach_dist {ps : List Pp} {m : Nat} {u v : Int} (hv : 1 ≤ v ∧ v ≤ m) : (reachList (joined ps) m u).contains v = true ↔ 0 ≤ distOf (joined ps) v u := by
  rw [reach_has hv, dist_pos]; exact ⟨reach_symm (joined_symm ps), reach_symm (joined_symm ps)⟩

set_option maxRecDepth 100000 in
set_option maxHeartbeats 1000000 in
theorem ShortestWay_spec (m : Int) (A : Option Addr) (n c : Nat) (ps : List Pp) (u v : Int) (w : World) (ha : Rd w 4 A n (pipesV ps)) (hn : n ≤ 1048576) :
    Calls Try.prog 26 #[.agg #[.int .i64 m, .slice A n c], .int .i64 u, .int .i64 v] w fun e w' => ∃ A' d, e = .returned (.tuple #[.slice A' (ShortestWay_v0 m ps u v).length d, .bool (ShortestWay_v1 m ps u v)]) ∧ w'.ownsRow w.heap.size 3 1 (.slice A' (ShortestWay_v0 m ps u v).length d) (ShortestWay_v0 m ps u v).length (intsV (ShortestWay_v0 m ps u v)) ∧ Below w.heap.size w w' := by
  have hl := rd_pipes_len ha
  go_enter Try.func26, Try.ntmps26
  refine wp_seq_k (fun K1 h1 => ?_)
  refine region_plain (row := none) [(0, true), (1, false), (2, false)] rfl ?_
  have s1 := SG.self w none
  refine sn (fun b => .pointer (some ⟨b, 0, none⟩)) #[.int .i64 m, .slice A n c] 31 s1 rfl rfl rfl (fun _ => by kernel_rfl) (fun b2 w3 hb4 k5 x6 s7 => ?_)
  have lo8 : w.heap.size ≤ b2 := by have := ((SG.belowR (Below.refl _ _) s1 (fun kq e => by cases e))).size; omega
  refine sq (v := .slice none 0 0) rfl (r_assign rfl rfl) rfl rfl rfl ?_
  refine sq (v := .bool false) rfl (r_assign rfl rfl) rfl rfl rfl ?_
  refine sch_end ?_
  simp only [List.set_cons_zero, List.set_cons_succ]
  have c9 := (SG.belowR (Below.refl _ _) s7 (fun kq e => by cases e))
  refine h1 _ _ ?_
  refine wp_seq_k (fun K2 h2 => ?_)
  refine wp_seq_k (fun K3 h3 => ?_)
  refine region_plain (row := none) [(0, false), (1, false), (2, true), (3, false), (4, false), (5, false), (6, false), (7, true), (8, false), (9, false), (10, false), (11, false), (12, false), (13, true), (14, false), (15, true), (16, false), (17, false)] rfl ?_
  have s10 := SG.self w3 none
  refine sq (v := .agg #[.int .i64 m, .slice A n c]) rfl (r_load2 rfl rfl (by kernel_rfl) (by kernel_rfl) (sgS (blk_cell (j := 0) x6 rfl) (by simp)) (sgS (blk_cell (j := 1) x6 rfl) (by simp))) rfl rfl rfl ?_
  refine sq (v := .int .i64 u) rfl (r_move rfl rfl) rfl rfl rfl ?_
  refine sc (vs := [.agg #[.int .i64 m, .slice A n c], .int .i64 u]) rfl rfl rfl (by kernel_rfl) rfl rfl (l2Node_any m A n c ps u _ (Rd.kept ha (SG.belowR c9 s10 (fun kq e => by cases e))) (by omega)) ?_
  rintro e w12 ⟨rfl, b11⟩
  have s13 := SG.of_below s10 b11
  refine ⟨_, rfl, s13, ?_⟩
  rcases Bool.eq_false_or_eq_true (goodN m ps && inB u 1 m) with q14 | q14
  · rw [q14]
    have hq9 := Bool.and_eq_true_iff.1 q14
    have hg := good_of hq9.1
    have hgl := hg.lo
    have hgh := hg.hi
    have hp := hg.pipesIn
    have hi0 := fun p (h9 : p ∈ ps) => (hg.pipe h9).1.1
    have hu9 := inB_iff.1 hq9.2
    refine sq (v := .bool false) rfl (r_not rfl rfl rfl) rfl rfl rfl ?_
    refine sq (v := .bool false) rfl (r_move rfl rfl) rfl rfl rfl ?_
    simp only [List.set_cons_zero, List.set_cons_succ]
    refine sq (v := .agg #[.int .i64 m, .slice A n c]) rfl (r_load2 rfl rfl (by kernel_rfl) (by kernel_rfl) (sgS (blk_cell (j := 0) x6 rfl) (by simp)) (sgS (blk_cell (j := 1) x6 rfl) (by simp))) rfl rfl rfl ?_
    refine sq (v := .int .i64 v) rfl (r_move rfl rfl) rfl rfl rfl ?_
    refine sc (vs := [.agg #[.int .i64 m, .slice A n c], .int .i64 v]) rfl rfl rfl (by kernel_rfl) rfl rfl (l2Node_any m A n c ps v _ (Rd.kept ha (SG.belowR c9 s13 (fun kq e => by cases e))) (by omega)) ?_
    rintro e w16 ⟨rfl, b15⟩
    have s17 := SG.of_below s13 b15
    refine ⟨_, rfl, s17, ?_⟩
    rcases Bool.eq_false_or_eq_true (goodN m ps && inB v 1 m) with q18 | q18
    · rw [q18]
      have hq9 := Bool.and_eq_true_iff.1 q18
      have hg := good_of hq9.1
      have hgl := hg.lo
      have hgh := hg.hi
      have hp := hg.pipesIn
      have hi0 := fun p (h9 : p ∈ ps) => (hg.pipe h9).1.1
      have hu9 := inB_iff.1 hq9.2
      refine sq (v := .bool false) rfl (r_not rfl rfl rfl) rfl rfl rfl ?_
      refine sq (v := .bool false) rfl (r_pick rfl rfl rfl) rfl rfl rfl ?_
      simp only [List.set_cons_zero, List.set_cons_succ]
      refine sq (v := .bool false) rfl (r_move rfl rfl) rfl rfl rfl ?_
      refine sq (v := .agg #[.int .i64 m, .slice A n c]) rfl (r_load2 rfl rfl (by kernel_rfl) (by kernel_rfl) (sgS (blk_cell (j := 0) x6 rfl) (by simp)) (sgS (blk_cell (j := 1) x6 rfl) (by simp))) rfl rfl rfl ?_
      refine sq (v := .int .i64 u) rfl (r_move rfl rfl) rfl rfl rfl ?_
      refine sc (vs := [.agg #[.int .i64 m, .slice A n c], .int .i64 u]) rfl rfl rfl (by kernel_rfl) rfl rfl (l2Reached_any m A n c ps u _ (Rd.kept ha (SG.belowR c9 s17 (fun kq e => by cases e))) (by omega) hp (by omega) (by omega)) ?_
      rintro e w27 ⟨A19, n20, c21, rfl, rd22, fm23, b26⟩
      have s28 := SG.of_below s17 b26
      refine ⟨_, rfl, s28, ?_⟩
      have hl24 := rd_ints_len rd22
      have h9 := reachList_len (joined ps) m.toNat u
      refine sq (v := .int .i64 v) rfl (r_move rfl rfl) rfl rfl rfl ?_
      simp only [List.set_cons_zero, List.set_cons_succ]
      refine sc (vs := [.slice A19 n20 c21, .int .i64 v]) rfl rfl rfl (by kernel_rfl) rfl rfl (l1Has_any A19 n20 c21 (reachList (joined ps) m.toNat u) v _ rd22 (by omega)) ?_
      rintro e w30 ⟨rfl, b29⟩
      have s31 := SG.of_below s28 b29
      refine ⟨_, rfl, s31, ?_⟩
      have rd32 := Rd.kept rd22 b29
      rcases Bool.eq_false_or_eq_true ((reachList (joined ps) m.toNat u).contains v) with q33 | q33
      · rw [q33]
        have h0 : 0 ≤ distOf (joined ps) v u := (reach_dist (m := m.toNat) (by omega)).1 q33
        refine sq (v := .bool false) rfl (r_not rfl rfl rfl) rfl rfl rfl ?_
        refine sq (v := .bool false) rfl (r_pick rfl rfl rfl) rfl rfl rfl ?_
        refine sch_end ?_
        simp only [List.set_cons_zero, List.set_cons_succ]
        have x6 := SG.blk s31 x6 (by simp)
        have c34 := (SG.belowR c9 s31 (fun kq e => by cases e))
        refine h3 _ _ ?_
        refine wp_cond_false rfl ?_
        refine wp_skip ?_
        refine h2 _ _ ?_
        refine wp_seq_k (fun K4 h4 => ?_)
        refine region_plain (row := none) [(0, false), (1, false), (2, false), (3, true), (4, false), (5, false)] rfl ?_
        have s35 := SG.self w30 none
        refine sq (v := .agg #[.int .i64 m, .slice A n c]) rfl (r_load2 rfl rfl (by kernel_rfl) (by kernel_rfl) (sgS (blk_cell (j := 0) x6 rfl) (by simp)) (sgS (blk_cell (j := 1) x6 rfl) (by simp))) rfl rfl rfl ?_
        refine sq (v := .int .i64 u) rfl (r_move rfl rfl) rfl rfl rfl ?_
        refine sq (v := .int .i64 v) rfl (r_move rfl rfl) rfl rfl rfl ?_
        have z41 := ((SG.belowR c34 s35 (fun kq e => by cases e))).size
        refine sc (vs := [.agg #[.int .i64 m, .slice A n c], .int .i64 u, .int .i64 v]) rfl rfl rfl (by kernel_rfl) rfl rfl (l2Way_any m A n c ps u v _ (Rd.kept ha (SG.belowR c34 s35 (fun kq e => by cases e))) (by omega) hp (by omega) (by omega) (by omega) h0) ?_
        rintro e w44 ⟨A36, n37, c38, rfl, ho39, b43⟩
        have s45 := SG.of_below s35 b43
        refine ⟨_, rfl, s45, ?_⟩
        have ho40 := own_base (base' := w.heap.size) ho39 z41
        have hlr42 := rd_ints_len (own_rd ho40)
        have nb46 : Nb b2 (.slice A36 n37 c38) := nb_lo ho39 (Nat.lt_of_lt_of_le (blk_lt x6) (World.grownBy.size s35))
        refine sq (v := .slice A36 n37 c38) rfl (r_assign rfl rfl) rfl rfl rfl ?_
        simp only [List.set_cons_zero, List.set_cons_succ]
        refine sq (v := .bool true) rfl (r_assign rfl rfl) rfl rfl rfl ?_
        refine sch_end ?_
        simp only [List.set_cons_zero, List.set_cons_succ]
        have x6 := SG.blk s45 x6 (by simp)
        have c47 := (SG.belowR c34 s45 (fun kq e => by cases e))
        have rd48 := Rd.kept rd32 (SG.below s45)
        refine h4 _ _ ?_
        refine wp_ret ?_
        try simp only [Exit.then]
        refine ret2 rfl rfl rfl ?_
        have e8 : ShortestWay_v1 m ps u v = true := ShortestWay_ok.2 ⟨⟨Bool.and_eq_true_iff.1 q14, Bool.and_eq_true_iff.1 q18⟩, h0⟩
        exact fin_ints ho40 (by unfold ShortestWay_v0; rw [if_pos e8]) e8.symm c47
      · rw [q33]
        refine sq (v := .bool true) rfl (r_not rfl rfl rfl) rfl rfl rfl ?_
        refine sq (v := .bool true) rfl (r_pick rfl rfl rfl) rfl rfl rfl ?_
        refine sch_end ?_
        simp only [List.set_cons_zero, List.set_cons_succ]
        have x6 := SG.blk s31 x6 (by simp)
        have c49 := (SG.belowR c9 s31 (fun kq e => by cases e))
        refine h3 _ _ ?_
        refine wp_cond_true rfl ?_
        refine wp_seq_k (fun K5 h5 => ?_)
        refine region_plain (row := none) [(0, true), (1, false), (2, false)] rfl ?_
        have s50 := SG.self w30 none
        refine sn (fun b => .slice (some ⟨b, 0, none⟩) 0 0) #[] 3 s50 rfl rfl rfl (fun _ => by kernel_rfl) (fun b51 w52 hb53 k54 x55 s56 => ?_)
        have lo57 : w.heap.size ≤ b51 := by have := ((SG.belowR c49 s50 (fun kq e => by cases e))).size; omega
        have ne58 : b2 ≠ b51 := by have := blk_lt x6; have := World.grownBy.size s50; omega
        refine sq (v := .slice (some ⟨b51, 0, none⟩) 0 0) rfl (r_assign rfl rfl) rfl rfl rfl ?_
        refine sq (v := .bool false) rfl (r_assign rfl rfl) rfl rfl rfl ?_
        refine sch_end ?_
        simp only [List.set_cons_zero, List.set_cons_succ]
        have x6 := SG.blk s56 x6 (by simp)
        have c59 := (SG.belowR c49 s56 (fun kq e => by cases e))
        have rd60 := Rd.kept rd32 (SG.below s56)
        refine h5 _ _ ?_
        refine wp_ret ?_
        try simp only [Exit.then]
        refine ret2 rfl rfl rfl ?_
        have ho61 := own_empty (base := w.heap.size) (size := 1) x55 lo57
        replace ho61 : World.ownsRow _ _ _ _ _ _ (intsV []) := ho61
        have nb62 : Nb b2 (.slice (some ⟨b51, 0, none⟩) 0 0) := nb_new (by have := ne58; omega)
        have e8 : ShortestWay_v1 m ps u v = false := Bool.eq_false_iff.2 (fun h8 => by have h9 := ShortestWay_ok.1 h8; have h7 := h9.2; have h6 := (reach_dist (m := m.toNat) (by omega)).2 h7; rw [q33] at h6; cases h6)
        exact fin_ints (zs := []) ho61 (by unfold ShortestWay_v0; rw [if_neg (by rw [e8]; simp)]) e8.symm c59
    · rw [q18]
      refine sq (v := .bool true) rfl (r_not rfl rfl rfl) rfl rfl rfl ?_
      refine sq (v := .bool true) rfl (r_pick rfl rfl rfl) rfl rfl rfl ?_
      simp only [List.set_cons_zero, List.set_cons_succ]
      refine sq (v := .bool true) rfl (r_move rfl rfl) rfl rfl rfl ?_
      refine sk s17 rfl rfl rfl rfl ?_
      refine sk s17 rfl rfl rfl rfl ?_
      refine sk s17 rfl rfl rfl rfl ?_
      refine sk s17 rfl rfl rfl rfl ?_
      simp only [List.set_cons_zero, List.set_cons_succ]
      refine sk s17 rfl rfl rfl rfl ?_
      refine sk s17 rfl rfl rfl rfl ?_
      refine sq (v := .bool true) rfl (r_pick rfl rfl rfl) rfl rfl rfl ?_
      refine sch_end ?_
      simp only [List.set_cons_zero, List.set_cons_succ]
      have x6 := SG.blk s17 x6 (by simp)
      have c63 := (SG.belowR c9 s17 (fun kq e => by cases e))
      refine h3 _ _ ?_
      refine wp_cond_true rfl ?_
      refine wp_seq_k (fun K6 h6 => ?_)
      refine region_plain (row := none) [(0, true), (1, false), (2, false)] rfl ?_
      have s64 := SG.self w16 none
      refine sn (fun b => .slice (some ⟨b, 0, none⟩) 0 0) #[] 3 s64 rfl rfl rfl (fun _ => by kernel_rfl) (fun b65 w66 hb67 k68 x69 s70 => ?_)
      have lo71 : w.heap.size ≤ b65 := by have := ((SG.belowR c63 s64 (fun kq e => by cases e))).size; omega
      have ne72 : b2 ≠ b65 := by have := blk_lt x6; have := World.grownBy.size s64; omega
      refine sq (v := .slice (some ⟨b65, 0, none⟩) 0 0) rfl (r_assign rfl rfl) rfl rfl rfl ?_
      refine sq (v := .bool false) rfl (r_assign rfl rfl) rfl rfl rfl ?_
      refine sch_end ?_
      simp only [List.set_cons_zero, List.set_cons_succ]
      have x6 := SG.blk s70 x6 (by simp)
      have c73 := (SG.belowR c63 s70 (fun kq e => by cases e))
      refine h6 _ _ ?_
      refine wp_ret ?_
      try simp only [Exit.then]
      refine ret2 rfl rfl rfl ?_
      have ho74 := own_empty (base := w.heap.size) (size := 1) x69 lo71
      replace ho74 : World.ownsRow _ _ _ _ _ _ (intsV []) := ho74
      have nb75 : Nb b2 (.slice (some ⟨b65, 0, none⟩) 0 0) := nb_new (by have := ne72; omega)
      have e8 : ShortestWay_v1 m ps u v = false := Bool.eq_false_iff.2 (fun h8 => by have h9 := ShortestWay_ok.1 h8; have h7 := h9.1.2; rw [Bool.and_eq_false_iff] at q18; rcases q18 with h6 | h6 <;> simp [h6] at h7)
      exact fin_ints (zs := []) ho74 (by unfold ShortestWay_v0; rw [if_neg (by rw [e8]; simp)]) e8.symm c73
  · rw [q14]
    refine sq (v := .bool true) rfl (r_not rfl rfl rfl) rfl rfl rfl ?_
    refine sq (v := .bool true) rfl (r_move rfl rfl) rfl rfl rfl ?_
    simp only [List.set_cons_zero, List.set_cons_succ]
    refine sk s13 rfl rfl rfl rfl ?_
    refine sk s13 rfl rfl rfl rfl ?_
    refine sk s13 rfl rfl rfl rfl ?_
    refine sk s13 rfl rfl rfl rfl ?_
    refine sq (v := .bool true) rfl (r_pick rfl rfl rfl) rfl rfl rfl ?_
    simp only [List.set_cons_zero, List.set_cons_succ]
    refine sq (v := .bool true) rfl (r_move rfl rfl) rfl rfl rfl ?_
    refine sk s13 rfl rfl rfl rfl ?_
    refine sk s13 rfl rfl rfl rfl ?_
    refine sk s13 rfl rfl rfl rfl ?_
    refine sk s13 rfl rfl rfl rfl ?_
    simp only [List.set_cons_zero, List.set_cons_succ]
    refine sk s13 rfl rfl rfl rfl ?_
    refine sk s13 rfl rfl rfl rfl ?_
    refine sq (v := .bool true) rfl (r_pick rfl rfl rfl) rfl rfl rfl ?_
    refine sch_end ?_
    simp only [List.set_cons_zero, List.set_cons_succ]
    have x6 := SG.blk s13 x6 (by simp)
    have c76 := (SG.belowR c9 s13 (fun kq e => by cases e))
    refine h3 _ _ ?_
    refine wp_cond_true rfl ?_
    refine wp_seq_k (fun K7 h7 => ?_)
    refine region_plain (row := none) [(0, true), (1, false), (2, false)] rfl ?_
    have s77 := SG.self w12 none
    refine sn (fun b => .slice (some ⟨b, 0, none⟩) 0 0) #[] 3 s77 rfl rfl rfl (fun _ => by kernel_rfl) (fun b78 w79 hb80 k81 x82 s83 => ?_)
    have lo84 : w.heap.size ≤ b78 := by have := ((SG.belowR c76 s77 (fun kq e => by cases e))).size; omega
    have ne85 : b2 ≠ b78 := by have := blk_lt x6; have := World.grownBy.size s77; omega
    refine sq (v := .slice (some ⟨b78, 0, none⟩) 0 0) rfl (r_assign rfl rfl) rfl rfl rfl ?_
    refine sq (v := .bool false) rfl (r_assign rfl rfl) rfl rfl rfl ?_
    refine sch_end ?_
    simp only [List.set_cons_zero, List.set_cons_succ]
    have x6 := SG.blk s83 x6 (by simp)
    have c86 := (SG.belowR c76 s83 (fun kq e => by cases e))
    refine h7 _ _ ?_
    refine wp_ret ?_
    try simp only [Exit.then]
    refine ret2 rfl rfl rfl ?_
    have ho87 := own_empty (base := w.heap.size) (size := 1) x82 lo84
    replace ho87 : World.ownsRow _ _ _ _ _ _ (intsV []) := ho87
    have nb88 : Nb b2 (.slice (some ⟨b78, 0, none⟩) 0 0) := nb_new (by have := ne85; omega)
    have e8 : ShortestWay_v1 m ps u v = false := Bool.eq_false_iff.2 (fun h8 => by have h9 := ShortestWay_ok.1 h8; have h7 := h9.1.1; rw [Bool.and_eq_false_iff] at q14; rcases q14 with h6 | h6 <;> simp [h6] at h7)
    exact fin_ints (zs := []) ho87 (by unfold ShortestWay_v0; rw [if_neg (by rw [e8]; simp)]) e8.symm c86

set_option maxRecDepth 100000 in
set_option maxHeartbeats 1000000 in
theorem ShortestWay_impl (m : Int) (A : Option Addr) (n c : Nat) (ps : List Pp) (u v : Int) (w : World) (ha : Rd w 4 A n (pipesV ps)) (hn : n ≤ 1048576) :
    Calls Try.prog 25 #[.agg #[.int .i64 m, .slice A n c], .int .i64 u, .int .i64 v] w fun e w' => ∃ A' d, e = .returned (.tuple #[.slice A' (ShortestWay_v0 m ps u v).length d, .bool (ShortestWay_v1 m ps u v)]) ∧ w'.ownsRow w.heap.size 3 1 (.slice A' (ShortestWay_v0 m ps u v).length d) (ShortestWay_v0 m ps u v).length (intsV (ShortestWay_v0 m ps u v)) ∧ Below w.heap.size w w' := by
  have hl := rd_pipes_len ha
  go_enter Try.func25, Try.ntmps25
  refine wp_seq_k (fun K1 h1 => ?_)
  refine region_plain (row := none) [(0, true), (1, false), (2, false)] rfl ?_
  have s1 := SG.self w none
  refine sn (fun b => .pointer (some ⟨b, 0, none⟩)) #[.int .i64 m, .slice A n c] 31 s1 rfl rfl rfl (fun _ => by kernel_rfl) (fun b2 w3 hb4 k5 x6 s7 => ?_)
  have lo8 : w.heap.size ≤ b2 := by have := ((SG.belowR (Below.refl _ _) s1 (fun kq e => by cases e))).size; omega
  refine sq (v := .slice none 0 0) rfl (r_assign rfl rfl) rfl rfl rfl ?_
  refine sq (v := .bool false) rfl (r_assign rfl rfl) rfl rfl rfl ?_
  refine sch_end ?_
  simp only [List.set_cons_zero, List.set_cons_succ]
  have c9 := (SG.belowR (Below.refl _ _) s7 (fun kq e => by cases e))
  refine h1 _ _ ?_
  refine wp_seq_k (fun K2 h2 => ?_)
  refine wp_seq_k (fun K3 h3 => ?_)
  refine region_plain (row := none) [(0, false), (1, false), (2, true), (3, false), (4, false), (5, false), (6, false), (7, true), (8, false), (9, false)] rfl ?_
  have s10 := SG.self w3 none
  refine sq (v := .agg #[.int .i64 m, .slice A n c]) rfl (r_load2 rfl rfl (by kernel_rfl) (by kernel_rfl) (sgS (blk_cell (j := 0) x6 rfl) (by simp)) (sgS (blk_cell (j := 1) x6 rfl) (by simp))) rfl rfl rfl ?_
  refine sq (v := .int .i64 u) rfl (r_move rfl rfl) rfl rfl rfl ?_
  refine sc (vs := [.agg #[.int .i64 m, .slice A n c], .int .i64 u]) rfl rfl rfl (by kernel_rfl) rfl rfl (hasNode_any m A n c ps u _ (Rd.kept ha (SG.belowR c9 s10 (fun kq e => by cases e))) (by omega)) ?_
  rintro e w12 ⟨rfl, b11⟩
  have s13 := SG.of_below s10 b11
  refine ⟨_, rfl, s13, ?_⟩
  rcases Bool.eq_false_or_eq_true (goodN m ps && inB u 1 m) with q14 | q14
  · rw [q14]
    have hq9 := Bool.and_eq_true_iff.1 q14
    have hg := good_of hq9.1
    have hgl := hg.lo
    have hgh := hg.hi
    have hp := hg.pipesIn
    have hi0 := fun p (h9 : p ∈ ps) => (hg.pipe h9).1.1
    have hu9 := inB_iff.1 hq9.2
    refine sq (v := .bool false) rfl (r_not rfl rfl rfl) rfl rfl rfl ?_
    refine sq (v := .bool false) rfl (r_move rfl rfl) rfl rfl rfl ?_
    simp only [List.set_cons_zero, List.set_cons_succ]
    refine sq (v := .agg #[.int .i64 m, .slice A n c]) rfl (r_load2 rfl rfl (by kernel_rfl) (by kernel_rfl) (sgS (blk_cell (j := 0) x6 rfl) (by simp)) (sgS (blk_cell (j := 1) x6 rfl) (by simp))) rfl rfl rfl ?_
    refine sq (v := .int .i64 v) rfl (r_move rfl rfl) rfl rfl rfl ?_
    refine sc (vs := [.agg #[.int .i64 m, .slice A n c], .int .i64 v]) rfl rfl rfl (by kernel_rfl) rfl rfl (has_any m A n c ps v _) ?_
    rintro e w16 ⟨rfl, b15⟩
    have s17 := SG.of_below s13 b15
    refine ⟨_, rfl, s17, ?_⟩
    rcases Bool.eq_false_or_eq_true (inB v 1 m) with q18 | q18
    · rw [q18]
      have hv9 := inB_iff.1 q18
      refine sq (v := .bool false) rfl (r_not rfl rfl rfl) rfl rfl rfl ?_
      refine sq (v := .bool false) rfl (r_pick rfl rfl rfl) rfl rfl rfl ?_
      simp only [List.set_cons_zero, List.set_cons_succ]
      refine sch_end ?_
      have x6 := SG.blk s17 x6 (by simp)
      have c19 := (SG.belowR c9 s17 (fun kq e => by cases e))
      refine h3 _ _ ?_
      refine wp_cond_false rfl ?_
      refine wp_skip ?_
      refine h2 _ _ ?_
      refine wp_seq_k (fun K4 h4 => ?_)
      refine region_plain (row := none) [(0, false), (1, false), (2, true), (3, true), (4, false), (5, false)] rfl ?_
      have s20 := SG.self w16 none
      refine sq (v := .agg #[.int .i64 m, .slice A n c]) rfl (r_load2 rfl rfl (by kernel_rfl) (by kernel_rfl) (sgS (blk_cell (j := 0) x6 rfl) (by simp)) (sgS (blk_cell (j := 1) x6 rfl) (by simp))) rfl rfl rfl ?_
      refine sq (v := .int .i64 v) rfl (r_move rfl rfl) rfl rfl rfl ?_
      have z26 := ((SG.belowR c19 s20 (fun kq e => by cases e))).size
      refine sc (vs := [.agg #[.int .i64 m, .slice A n c], .int .i64 v, .int .i64 0]) rfl rfl rfl (by kernel_rfl) rfl rfl (distances0_any m A n c ps v _ (Rd.kept ha (SG.belowR c19 s20 (fun kq e => by cases e))) (by omega) hp (by omega) (by omega) hi0) ?_
      rintro e w29 ⟨A21, n22, c23, rfl, ho24, b28⟩
      have s30 := SG.of_below s20 b28
      refine ⟨_, rfl, s30, ?_⟩
      have ho25 := own_base (base' := w.heap.size) ho24 z26
      have hlr27 := rd_ints_len (own_rd ho25)
      rw [distList_len] at hlr27
      have nb31 : Nb b2 (.slice A21 n22 c23) := nb_lo ho24 (Nat.lt_of_lt_of_le (blk_lt x6) (World.grownBy.size s20))
      obtain ⟨g32, rfl, _, _⟩ := own_addr ho25 (by omega)
      refine sn (fun b => .slice (some ⟨b, 0, none⟩) 0 0) #[] 3 s30 rfl rfl rfl (fun _ => by kernel_rfl) (fun b33 w34 hb35 k36 x37 s38 => ?_)
      have lo39 : w.heap.size ≤ b33 := by have := ((SG.belowR c19 s30 (fun kq e => by cases e))).size; omega
      have ne40 : b2 ≠ b33 := by have := blk_lt x6; have := World.grownBy.size s30; omega
      have nb41 : Nb b33 (.slice (some ⟨g32, 0, none⟩) n22 c23) := nb_hi ho25 (Nat.le_of_eq hb35)
      have ho42 := own_kept ho25 k36
      refine sq (v := .slice (some ⟨g32, 0, none⟩) n22 c23) rfl (r_assign rfl rfl) rfl rfl rfl ?_
      simp only [List.set_cons_zero, List.set_cons_succ]
      refine sq (v := .slice (some ⟨b33, 0, none⟩) 0 0) rfl (r_assign rfl rfl) rfl rfl rfl ?_
      refine sch_end ?_
      simp only [List.set_cons_zero, List.set_cons_succ]
      have x6 := SG.blk s38 x6 (by simp)
      have c43 := (SG.belowR c19 s38 (fun kq e => by cases e))
      refine h4 _ _ ?_
      refine wp_seq_k (fun K5 h5 => ?_)
      refine wp_seq_k (fun K6 h6 => ?_)
      refine region_quiet [(0, false), (1, false), (2, false), (3, false), (4, false)] rfl ?_
      refine sq (v := .slice (some ⟨g32, 0, none⟩) n22 c23) rfl (r_move rfl rfl) rfl rfl rfl ?_
      refine sq (v := .int .i64 u) rfl (r_move rfl rfl) rfl rfl rfl ?_
      refine sq (v := .pointer (some ⟨g32, (u).toNat, none⟩)) rfl (r_idx0 (k := (u).toNat) rfl rfl (by show Value.int .i64 u = _; rw [Int.toNat_of_nonneg (by omega)]) (by kernel_rfl) (by omega)) rfl rfl rfl ?_
      refine sq (v := .int .i64 (distOf (joined ps) v u)) rfl (r_load rfl rfl (by kernel_rfl) (eqS (own_atI ho42 (dist_get (by omega) (by omega))))) rfl rfl rfl ?_
      by_cases q44 : (distOf (joined ps) v u : Int) < (0 : Int)
      · refine sq (v := .bool true) rfl (r_lss rfl rfl rfl (decide_eq_true q44)) rfl rfl rfl ?_
        simp only [List.set_cons_zero, List.set_cons_succ]
        refine sch_end ?_
        refine h6 _ _ ?_
        refine wp_cond_true rfl ?_
        refine wp_seq_k (fun K7 h7 => ?_)
        refine region_quiet [(0, false), (1, false)] rfl ?_
        refine sq (v := .slice none 0 0) rfl (r_assign rfl rfl) rfl rfl rfl ?_
        refine sq (v := .bool false) rfl (r_assign rfl rfl) rfl rfl rfl ?_
        refine sch_end ?_
        simp only [List.set_cons_zero, List.set_cons_succ]
        refine h7 _ _ ?_
        refine wp_ret ?_
        try simp only [Exit.then]
        refine ret2 rfl rfl rfl ?_
        have e8 : ShortestWay_v1 m ps u v = false := Bool.eq_false_iff.2 (fun h8 => by have h9 := ShortestWay_ok.1 h8; have h7 := h9.2; omega)
        exact fin_ints (zs := []) (World.ownsRow_nil _ _ _ _) (by unfold ShortestWay_v0; rw [if_neg (by rw [e8]; simp)]) e8.symm c43
      · have h0 : 0 ≤ distOf (joined ps) v u := by omega
        have hv : 1 ≤ v ∧ v ≤ (m.toNat : Int) := by omega
        have hdu := dist_lt (joined_symm ps) (joined_in hp) hv u
        refine sq (v := .bool false) rfl (r_lss rfl rfl rfl (decide_eq_false q44)) rfl rfl rfl ?_
        simp only [List.set_cons_zero, List.set_cons_succ]
        refine sch_end ?_
        refine h6 _ _ ?_
        refine wp_cond_false rfl ?_
        refine wp_skip ?_
        refine h5 _ _ ?_
        refine wp_seq_k (fun K8 h8 => ?_)
        refine wp_block ?_
        have ho45 := own_empty (base := w.heap.size) (size := 1) x37 lo39
        replace ho45 : World.ownsRow _ _ _ _ _ _ (intsV []) := ho45
        have nr46 : NbR (.slice (some ⟨b33, 0, none⟩) 0 0) (.slice (some ⟨g32, 0, none⟩) n22 c23) := nbr_new nb41
        have nb47 : Nb b2 (.slice (some ⟨b33, 0, none⟩) 0 0) := nb_new (by have := ne40; omega)
        refine loopK (fun am0 aa0 wl0 => ∃ (z : Int) (way : List Int) (A0_9 : Option Addr) (n0_9 : Nat) (c0_9 : Nat) (u0_11 u0_12 u0_32 u0_33 u0_34 u0_35 u0_36 u0_37 u0_38 u0_39 u0_40 u0_41 u0_42 u0_43 u0_44 u0_45 u0_46 u0_47 u0_48 u0_49 u0_50 u0_51 u0_52 u0_53 u0_54 u0_55 u0_56 u0_57 u0_58 u0_59 u0_60 u0_61 u0_62 u0_63 u0_64 u0_65 : Value), aa0 = ⟨[.agg #[.int .i64 m, .slice A n c], .int .i64 z, .int .i64 v, .pointer (some ⟨b2, 0, none⟩), undef, undef, .slice none 0 0, .bool false, .slice (some ⟨g32, 0, none⟩) n22 c23, .slice A0_9 n0_9 c0_9, undef, u0_11, u0_12, .agg #[.int .i64 m, .slice A n c], .int .i64 u, .bool true, .bool false, .bool false, .agg #[.int .i64 m, .slice A n c], .int .i64 v, .bool true, .bool false, .bool false, .agg #[.int .i64 m, .slice A n c], .int .i64 v, .slice (some ⟨g32, 0, none⟩) n22 c23, .slice (some ⟨b33, 0, none⟩) 0 0, .slice (some ⟨g32, 0, none⟩) n22 c23, .int .i64 u, .pointer (some ⟨g32, (u).toNat, none⟩), .int .i64 (distOf (joined ps) v u), .bool false, u0_32, u0_33, u0_34, u0_35, u0_36, u0_37, u0_38, u0_39, u0_40, u0_41, u0_42, u0_43, u0_44, u0_45, u0_46, u0_47, u0_48, u0_49, u0_50, u0_51, u0_52, u0_53, u0_54, u0_55, u0_56, u0_57, u0_58, u0_59, u0_60, u0_61, u0_62, u0_63, u0_64, u0_65, undef].toArray, []⟩ ∧ (am0 = (distOf (joined ps) v z).toNat) ∧ (1 ≤ z ∧ z ≤ m) ∧ (0 ≤ distOf (joined ps) v z) ∧ (way ++ wayL (distOf (joined ps) v) ps (distOf (joined ps) v z).toNat z = wayL (distOf (joined ps) v) ps (distOf (joined ps) v u).toNat u) ∧ ((n0_9 : Int) + distOf (joined ps) v z = distOf (joined ps) v u) ∧ (wl0.heap[b2]? = some (.cells #[.int .i64 m, .slice A n c] 31 (0, 0))) ∧ (wl0.ownsRow w.heap.size 3 1 (.slice (some ⟨g32, 0, none⟩) n22 c23) n22 (intsV (distList (joined ps) m.toNat v))) ∧ (wl0.ownsRow w.heap.size 3 1 (.slice A0_9 n0_9 c0_9) n0_9 (intsV way)) ∧ (Nb b2 (.slice A0_9 n0_9 c0_9)) ∧ (NbR (.slice A0_9 n0_9 c0_9) (.slice (some ⟨g32, 0, none⟩) n22 c23)) ∧ (Below w.heap.size w wl0)) ((distOf (joined ps) v u).toNat) ?_ ?_
        · exact ⟨u, [], (some ⟨b33, 0, none⟩), 0, 0, _, _, _, _, _, _, _, _, _, _, _, _, _, _, _, _, _, _, _, _, _, _, _, _, _, _, _, _, _, _, _, _, _, _, _, _, rfl, rfl, (by omega), (by omega), rfl, (by omega), x6, ho42, ho45, nb47, nr46, c43⟩
        rintro am0 aa0 wl0 K9 h9 ⟨z, way, A0_9, n0_9, c0_9, u0_11, u0_12, u0_32, u0_33, u0_34, u0_35, u0_36, u0_37, u0_38, u0_39, u0_40, u0_41, u0_42, u0_43, u0_44, u0_45, u0_46, u0_47, u0_48, u0_49, u0_50, u0_51, u0_52, u0_53, u0_54, u0_55, u0_56, u0_57, u0_58, u0_59, u0_60, u0_61, u0_62, u0_63, u0_64, u0_65, rfl, rfl, hz, hd, hw, hct, x6, ho0_8, ho0_9, nb0_9_b2, nr0_1_0, c48⟩
        have hdz := dist_lt (joined_symm ps) (joined_in hp) hv z
        refine wp_seq_k (fun K10 h10 => ?_)
        refine wp_seq_k (fun K11 h11 => ?_)
        refine region_quiet [(0, false), (1, false), (2, false)] rfl ?_
        refine sq (v := .int .i64 z) rfl (r_move rfl rfl) rfl rfl rfl ?_
        refine sq (v := .int .i64 v) rfl (r_move rfl rfl) rfl rfl rfl ?_
        by_cases q49 : (z : Int) ≠ (v : Int)
        · have hz0 : 0 < distOf (joined ps) v z := by
            by_cases h9 : distOf (joined ps) v z = 0
            · exact absurd (dist_zero h9) q49
            · omega
          refine sq (v := .bool true) rfl (r_neq rfl rfl rfl (decide_eq_true q49)) rfl rfl rfl ?_
          refine sch_end ?_
          simp only [List.set_cons_zero, List.set_cons_succ]
          refine h11 _ _ ?_
          refine wp_cond_true rfl ?_
          refine wp_skip ?_
          refine h10 _ _ ?_
          refine wp_block ?_
          refine wp_seq_k (fun K12 h12 => ?_)
          refine region_quiet [(0, false), (1, false), (2, false), (3, false)] rfl ?_
          refine sq (v := .pointer (some ⟨b2, 1, none⟩)) rfl (r_field (k := 1) rfl rfl (by kernel_rfl)) rfl rfl rfl ?_
          refine sq (v := .slice A n c) rfl (r_load rfl rfl (by kernel_rfl) (eqS (blk_cell (j := 1) x6 rfl))) rfl rfl rfl ?_
          refine sq (v := .int .i64 ((n : Nat) : Int)) rfl (r_len rfl rfl (by kernel_rfl)) rfl rfl rfl ?_
          refine sq (v := .int .i64 0) rfl (r_move rfl rfl) rfl rfl rfl ?_
          refine sch_end ?_
          simp only [List.set_cons_zero, List.set_cons_succ]
          refine h12 _ _ ?_
          refine wp_block ?_
          refine loopK (fun am1 aa1 wl1 => ∃ (i : Nat) (u1_11 u1_12 u1_39 u1_40 u1_41 u1_42 u1_43 u1_44 u1_45 u1_46 u1_47 u1_48 u1_49 u1_50 u1_51 u1_52 u1_53 u1_54 u1_55 u1_56 u1_57 u1_58 u1_59 u1_60 u1_61 u1_62 u1_63 u1_64 u1_65 : Value), aa1 = ⟨[.agg #[.int .i64 m, .slice A n c], .int .i64 z, .int .i64 v, .pointer (some ⟨b2, 0, none⟩), undef, undef, .slice none 0 0, .bool false, .slice (some ⟨g32, 0, none⟩) n22 c23, .slice A0_9 n0_9 c0_9, undef, u1_11, u1_12, .agg #[.int .i64 m, .slice A n c], .int .i64 u, .bool true, .bool false, .bool false, .agg #[.int .i64 m, .slice A n c], .int .i64 v, .bool true, .bool false, .bool false, .agg #[.int .i64 m, .slice A n c], .int .i64 v, .slice (some ⟨g32, 0, none⟩) n22 c23, .slice (some ⟨b33, 0, none⟩) 0 0, .slice (some ⟨g32, 0, none⟩) n22 c23, .int .i64 u, .pointer (some ⟨g32, (u).toNat, none⟩), .int .i64 (distOf (joined ps) v u), .bool false, .int .i64 z, .int .i64 v, .bool true, .pointer (some ⟨b2, 1, none⟩), .slice A n c, .int .i64 ((n : Nat) : Int), .int .i64 ((i : Nat) : Int), u1_39, u1_40, u1_41, u1_42, u1_43, u1_44, u1_45, u1_46, u1_47, u1_48, u1_49, u1_50, u1_51, u1_52, u1_53, u1_54, u1_55, u1_56, u1_57, u1_58, u1_59, u1_60, u1_61, u1_62, u1_63, u1_64, u1_65, undef].toArray, []⟩ ∧ (am1 = n - i) ∧ (i ≤ n) ∧ (∀ j q, j < i → ps[j]? = some q → ¬ (0 < otherOf q z ∧ distOf (joined ps) v (otherOf q z) = distOf (joined ps) v z - 1)) ∧ (wl1.heap[b2]? = some (.cells #[.int .i64 m, .slice A n c] 31 (0, 0))) ∧ (wl1.ownsRow w.heap.size 3 1 (.slice (some ⟨g32, 0, none⟩) n22 c23) n22 (intsV (distList (joined ps) m.toNat v))) ∧ (wl1.ownsRow w.heap.size 3 1 (.slice A0_9 n0_9 c0_9) n0_9 (intsV way)) ∧ (Below w.heap.size w wl1)) (n - 0) ?_ ?_
          · exact ⟨0, _, _, _, _, _, _, _, _, _, _, _, _, _, _, _, _, _, _, _, _, _, _, _, _, _, _, _, _, _, rfl, rfl, (Nat.zero_le _), (fun j q hj => absurd hj (by omega)), x6, ho0_8, ho0_9, c48⟩
          rintro am1 aa1 wl1 K13 h13 ⟨i, u1_11, u1_12, u1_39, u1_40, u1_41, u1_42, u1_43, u1_44, u1_45, u1_46, u1_47, u1_48, u1_49, u1_50, u1_51, u1_52, u1_53, u1_54, u1_55, u1_56, u1_57, u1_58, u1_59, u1_60, u1_61, u1_62, u1_63, u1_64, u1_65, rfl, rfl, hi, hno, x6, ho1_8, ho1_9, c50⟩
          refine wp_seq_k (fun K14 h14 => ?_)
          refine region_quiet [(0, false)] rfl ?_
          have hilt : i < n := by obtain ⟨j, p9, h7, h8, h9⟩ := step_there hp hz0; exact (if hc : i < n then hc else absurd ⟨h8, h9⟩ (hno j p9 (by have := (List.getElem?_eq_some_iff.1 h7).1; omega) h7))
          refine sq (v := .bool true) rfl (r_lss rfl rfl rfl (decide_eq_true (by omega))) rfl rfl rfl ?_
          refine sch_end ?_
          simp only [List.set_cons_zero, List.set_cons_succ]
          refine h14 _ _ ?_
          refine wp_seq_k (fun K15 h15 => ?_)
          refine wp_cond_true rfl ?_
          refine wp_skip ?_
          refine h15 _ _ ?_
          refine wp_seq_k (fun K16 h16 => ?_)
          refine wp_block ?_
          refine wp_seq_k (fun K17 h17 => ?_)
          refine region_plain (row := none) [(0, false), (1, false), (2, true), (3, true)] rfl ?_
          have s51 := SG.self wl1 none
          obtain ⟨x52, hx53⟩ := get_of (zs := ps) (k := i) (by have := hl; omega)
          obtain ⟨b54, o55, hA56, hb57, hc58, hc59, hc60, hc61⟩ := Rd.elPipe ha hx53
          refine sq (v := .pointer (some ⟨b54, o55 + i * 4, none⟩)) rfl (r_idx (k := i) rfl rfl hA56 rfl (by kernel_rfl) (by have := hl; omega)) rfl rfl rfl ?_
          refine sq (v := .agg #[.int .i64 x52.id, .int .i64 x52.fr, .int .i64 x52.to, .int .i64 x52.sz]) rfl (r_load4 rfl rfl (by kernel_rfl) (by kernel_rfl) (sgS (later c50 hc58) (by simp)) (sgS (later c50 hc59) (by simp)) (sgS (later c50 hc60) (by simp)) (sgS (later c50 hc61) (by simp))) rfl rfl rfl ?_
          refine sn (fun b => .pointer (some ⟨b, 0, none⟩)) #[.int .i64 0, .int .i64 0, .int .i64 0, .int .i64 0] 51 s51 rfl rfl rfl (fun _ => by kernel_rfl) (fun b62 w63 hb64 k65 x66 s67 => ?_)
          have lo68 : w.heap.size ≤ b62 := by have := ((SG.belowR c50 s51 (fun kq e => by cases e))).size; omega
          have ne69 : b2 ≠ b62 := by have := blk_lt x6; have := World.grownBy.size s51; omega
          have nb70 : Nb b62 (.slice (some ⟨g32, 0, none⟩) n22 c23) := nb_hi ho1_8 (Nat.le_of_eq hb64)
          have nb71 : Nb b62 (.slice A0_9 n0_9 c0_9) := nb_hi ho1_9 (Nat.le_of_eq hb64)
          have ho72 := own_kept ho1_8 k65
          have ho73 := own_kept ho1_9 k65
          refine ss (j := 0) (news := [.int .i64 x52.id, .int .i64 x52.fr, .int .i64 x52.to, .int .i64 x52.sz]) (cs' := #[.int .i64 x52.id, .int .i64 x52.fr, .int .i64 x52.to, .int .i64 x52.sz]) s67 rfl rfl rfl rfl rfl rfl x66 rfl (by kernel_rfl) (by simp) rfl rfl (.inr (by have := World.grownBy.size s51; have := hb64; omega)) (fun w74 g75 x76 s77 => ?_)
          have ho78 := own_grown ho72 g75 (fun j e1 e2 => by cases e2; exact nb70 e1.symm)
          have ho79 := own_grown ho73 g75 (fun j e1 e2 => by cases e2; exact nb71 e1.symm)
          refine sch_end ?_
          simp only [List.set_cons_zero, List.set_cons_succ]
          have x6 := SG.blk s77 x6 (by simp)
          have c80 := (SG.belowR c50 s77 (fun kq e => by cases e))
          refine h17 _ _ ?_
          refine wp_seq_k (fun K18 h18 => ?_)
          refine region_plain (row := none) [(0, false), (1, false), (2, true), (3, false)] rfl ?_
          have s81 := SG.self w74 none
          refine sq (v := .agg #[.int .i64 x52.id, .int .i64 x52.fr, .int .i64 x52.to, .int .i64 x52.sz]) rfl (r_load4 rfl rfl (by kernel_rfl) (by kernel_rfl) (sgS (blk_cell (j := 0) x76 rfl) (by simp)) (sgS (blk_cell (j := 1) x76 rfl) (by simp)) (sgS (blk_cell (j := 2) x76 rfl) (by simp)) (sgS (blk_cell (j := 3) x76 rfl) (by simp))) rfl rfl rfl ?_
          refine sq (v := .int .i64 z) rfl (r_move rfl rfl) rfl rfl rfl ?_
          refine sc (vs := [.agg #[.int .i64 x52.id, .int .i64 x52.fr, .int .i64 x52.to, .int .i64 x52.sz], .int .i64 z]) rfl rfl rfl (by kernel_rfl) rfl rfl (other_any x52 z _) ?_
          rintro e w83 ⟨rfl, b82⟩
          have s84 := SG.of_below s81 b82
          refine ⟨_, rfl, s84, ?_⟩
          have ho85 := own_kept ho78 b82
          have ho86 := own_kept ho79 b82
          refine sq (v := .int .i64 (otherOf x52 z)) rfl (r_assign rfl rfl) rfl rfl rfl ?_
          refine sch_end ?_
          simp only [List.set_cons_zero, List.set_cons_succ]
          have x6 := SG.blk s84 x6 (by simp)
          have x76 := SG.blk s84 x76 (by simp)
          have c87 := (SG.belowR c80 s84 (fun kq e => by cases e))
          refine h18 _ _ ?_
          refine wp_seq_k (fun K19 h19 => ?_)
          refine region_sch (row := none) (Sch.of [(0, false), (1, false), (2, false), (3, false), (4, false), (5, false), (6, false), (7, false), (8, false), (9, false), (10, false), (11, false), (12, false), (13, false)]) (by kernel_rfl) (by kernel_rfl) (fun _ d _ _ _ h => by cases d <;> exact h) (by kernel_rfl) (fun w88 e89 s90 => ?_)
          have ho91 := own_heap ho85 e89
          have ho92 := own_heap ho86 e89
          refine sq (v := .int .i64 (otherOf x52 z)) rfl (r_move rfl rfl) rfl rfl rfl ?_
          by_cases q93 : (otherOf x52 z : Int) > (0 : Int)
          · have hin9 := other_in hp hx53 q93
            refine sq (v := .bool true) rfl (r_gtr rfl rfl rfl (decide_eq_true q93)) rfl rfl rfl ?_
            refine sq (v := .bool true) rfl (r_move rfl rfl) rfl rfl rfl ?_
            refine sq (v := .slice (some ⟨g32, 0, none⟩) n22 c23) rfl (r_move rfl rfl) rfl rfl rfl ?_
            refine sq (v := .int .i64 (otherOf x52 z)) rfl (r_move rfl rfl) rfl rfl rfl ?_
            simp only [List.set_cons_zero, List.set_cons_succ]
            refine sq (v := .pointer (some ⟨g32, (otherOf x52 z).toNat, none⟩)) rfl (r_idx0 (k := (otherOf x52 z).toNat) rfl rfl (by show Value.int .i64 (otherOf x52 z) = _; rw [Int.toNat_of_nonneg (by omega)]) (by kernel_rfl) (by omega)) rfl rfl rfl ?_
            refine sq (v := .int .i64 (distOf (joined ps) v (otherOf x52 z))) rfl (r_load rfl rfl (by kernel_rfl) (sgS (own_atI ho85 (dist_get (by omega) (by omega))) (by simp))) rfl rfl rfl ?_
            refine sq (v := .slice (some ⟨g32, 0, none⟩) n22 c23) rfl (r_move rfl rfl) rfl rfl rfl ?_
            refine sq (v := .int .i64 z) rfl (r_move rfl rfl) rfl rfl rfl ?_
            refine sq (v := .pointer (some ⟨g32, (z).toNat, none⟩)) rfl (r_idx0 (k := (z).toNat) rfl rfl (by show Value.int .i64 z = _; rw [Int.toNat_of_nonneg (by omega)]) (by kernel_rfl) (by omega)) rfl rfl rfl ?_
            simp only [List.set_cons_zero, List.set_cons_succ]
            refine sq (v := .int .i64 (distOf (joined ps) v z)) rfl (r_load rfl rfl (by kernel_rfl) (sgS (own_atI ho85 (dist_get (by omega) (by omega))) (by simp))) rfl rfl rfl ?_
            refine sq (v := .int .i64 (distOf (joined ps) v z - 1)) rfl (r_sub (z := distOf (joined ps) v z - 1) rfl rfl rfl (rfl) (by omega)) rfl rfl rfl ?_
            by_cases q94 : (distOf (joined ps) v (otherOf x52 z) : Int) = (distOf (joined ps) v z - 1 : Int)
            · refine sq (v := .bool true) rfl (r_eql rfl rfl rfl (decide_eq_true q94)) rfl rfl rfl ?_
              refine sq (v := .bool true) rfl (r_pick rfl rfl rfl) rfl rfl rfl ?_
              refine sch_end ?_
              simp only [List.set_cons_zero, List.set_cons_succ]
              have x6 := SG.blk s90 x6 (by simp)
              have x76 := SG.blk s90 x76 (by simp)
              have c95 := (SG.belowR c87 s90 (fun kq e => by cases e))
              refine h19 _ _ ?_
              refine wp_cond_true rfl ?_
              refine wp_seq_k (fun K20 h20 => ?_)
              refine region_plain (row := (Value.ownBlock (.slice A0_9 n0_9 c0_9))) [(0, false), (1, false), (2, false), (3, true), (4, true), (5, false)] rfl ?_
              have s96 := SG.self w88 (Value.ownBlock (.slice A0_9 n0_9 c0_9))
              refine sq (v := .slice A0_9 n0_9 c0_9) rfl (r_move rfl rfl) rfl rfl rfl ?_
              refine sq (v := .pointer (some ⟨b62, 0, none⟩)) rfl (r_field0 rfl rfl (by kernel_rfl)) rfl rfl rfl ?_
              refine sq (v := .int .i64 x52.id) rfl (r_load rfl rfl (by kernel_rfl) (sgS (blk_cell (j := 0) x76 rfl) nb71)) rfl rfl rfl ?_
              refine sn (fun b => .slice (some ⟨b, 0, none⟩) 1 1) #[.int .i64 x52.id] 3 s96 rfl rfl rfl (fun _ => by kernel_rfl) (fun b97 w98 hb99 k100 x101 s102 => ?_)
              have lo103 : w.heap.size ≤ b97 := by have := ((SG.belowR c95 s96 (fun kq e => (World.ownsRow.lt ho92 kq e).1))).size; omega
              have ne104 : b2 ≠ b97 := by have := blk_lt x6; have := World.grownBy.size s96; omega
              have ne105 : b62 ≠ b97 := by have := blk_lt x76; have := World.grownBy.size s96; omega
              have nb106 : Nb b97 (.slice (some ⟨g32, 0, none⟩) n22 c23) := nb_hi ho91 (Nat.le_of_eq hb99)
              have nb107 : Nb b97 (.slice A0_9 n0_9 c0_9) := nb_hi ho92 (Nat.le_of_eq hb99)
              have ho108 := own_kept ho91 k100
              have ho109 := own_kept ho92 k100
              refine sap (e := 3) (size := 1) (base := w.heap.size) (m := 1) s102 rfl rfl rfl rfl rfl rfl (by kernel_rfl) ho109 x101 rfl rfl (by omega) (by omega) (by have := ((SG.belowR c95 s102 (fun kq e => (World.ownsRow.lt ho92 kq e).1))).size; omega) (.inl rfl) (fun g110 cap111 w112 ho113 hg114 hat115 hlt116 s117 => ?_)
              have nb118 : Nb b2 (.slice (some ⟨g110, 0, none⟩) (n0_9 + 1) cap111) := nb_app nb0_9_b2 (Nat.lt_of_lt_of_le (blk_lt x6) (World.grownBy.size s102)) hat115
              have nb119 : Nb b62 (.slice (some ⟨g110, 0, none⟩) (n0_9 + 1) cap111) := nb_app nb71 (Nat.lt_of_lt_of_le (blk_lt x76) (World.grownBy.size s102)) hat115
              have nb120 : Nb b97 (.slice (some ⟨g110, 0, none⟩) (n0_9 + 1) cap111) := nb_app nb107 (blk_lt x101) hat115
              have x101 := (hg114.block _ (blk_lt x101) nb107).trans x101
              have ho113 := own_snoc ho113
              have nr121 : NbR (.slice (some ⟨g110, 0, none⟩) (n0_9 + 1) cap111) (.slice (some ⟨g32, 0, none⟩) n22 c23) := nbr_app nr0_1_0 (fun j h => (World.ownsRow.lt ho108 j h).2) (hat3 (v := .slice A0_9 n0_9 c0_9) hat115)
              have ho122 := own_grown ho108 hg114 (NbR.symm nr0_1_0)
              refine sq (v := .slice (some ⟨g110, 0, none⟩) (n0_9 + 1) cap111) rfl (r_assign rfl rfl) rfl rfl rfl ?_
              simp only [List.set_cons_zero, List.set_cons_succ]
              refine sch_end ?_
              have x6 := SG.blk s117 x6 nb0_9_b2
              have x76 := SG.blk s117 x76 nb71
              have c123 := (SG.belowR c95 s117 (fun kq e => (World.ownsRow.lt ho92 kq e).1))
              refine h20 _ _ ?_
              refine wp_seq_k (fun K21 h21 => ?_)
              refine region_quiet [(0, false), (1, false)] rfl ?_
              refine sq (v := .int .i64 (otherOf x52 z)) rfl (r_move rfl rfl) rfl rfl rfl ?_
              refine sq (v := .int .i64 (otherOf x52 z)) rfl (r_assign rfl rfl) rfl rfl rfl ?_
              refine sch_end ?_
              simp only [List.set_cons_zero, List.set_cons_succ]
              refine h21 _ _ ?_
              refine wp_exit ?_
              have e8 : wayL (distOf (joined ps) v) ps (distOf (joined ps) v z).toNat z = x52.id :: wayL (distOf (joined ps) v) ps (distOf (joined ps) v (otherOf x52 z)).toNat (otherOf x52 z) := by
                rw [show (distOf (joined ps) v z).toNat = (distOf (joined ps) v (otherOf x52 z)).toNat + 1 by omega]
                exact wayL_succ (stepOf_at hx53 (by omega) q94 hno)
              exact h9 _ _ _ (by omega : ((distOf (joined ps) v (otherOf x52 z)).toNat) < _) ⟨otherOf x52 z, way ++ [x52.id], (some ⟨g110, 0, none⟩), (n0_9 + 1), cap111, _, _, _, _, _, _, _, _, _, _, _, _, _, _, _, _, _, _, _, _, _, _, _, _, _, _, _, _, _, _, _, _, _, _, _, _, rfl, rfl, (by omega), (by omega), (by rw [← hw, e8, List.append_assoc]; rfl), (by omega), x6, ho122, ho113, nb118, nr121, c123⟩
            · refine sq (v := .bool false) rfl (r_eql rfl rfl rfl (decide_eq_false q94)) rfl rfl rfl ?_
              refine sq (v := .bool false) rfl (r_pick rfl rfl rfl) rfl rfl rfl ?_
              refine sch_end ?_
              simp only [List.set_cons_zero, List.set_cons_succ]
              have x6 := SG.blk s90 x6 (by simp)
              have x76 := SG.blk s90 x76 (by simp)
              have c124 := (SG.belowR c87 s90 (fun kq e => by cases e))
              refine h19 _ _ ?_
              refine wp_cond_false rfl ?_
              refine wp_skip ?_
              refine h16 _ _ ?_
              refine region_quiet [(0, false), (1, false)] rfl ?_
              refine sq (v := .int .i64 ((i + 1 : Nat) : Int)) rfl (r_add (z := ((i + 1 : Nat) : Int)) rfl rfl rfl (by omega) (by omega)) rfl rfl rfl ?_
              refine sq (v := .int .i64 ((i + 1 : Nat) : Int)) rfl (r_move rfl rfl) rfl rfl rfl ?_
              refine sch_end ?_
              simp only [List.set_cons_zero, List.set_cons_succ]
              exact h13 _ _ _ (by omega : (n - (i + 1)) < _) ⟨i + 1, _, _, _, _, _, _, _, _, _, _, _, _, _, _, _, _, _, _, _, _, _, _, _, _, _, _, _, _, _, rfl, rfl, (by omega), (upto_succ (Q := fun q => ¬ (0 < otherOf q z ∧ distOf (joined ps) v (otherOf q z) = distOf (joined ps) v z - 1)) hno hx53 (by omega)), x6, ho91, ho92, c124⟩
          · refine sq (v := .bool false) rfl (r_gtr rfl rfl rfl (decide_eq_false q93)) rfl rfl rfl ?_
            refine sq (v := .bool false) rfl (r_move rfl rfl) rfl rfl rfl ?_
            refine sk s90 rfl rfl rfl rfl ?_
            refine sk s90 rfl rfl rfl rfl ?_
            simp only [List.set_cons_zero, List.set_cons_succ]
            refine sk s90 rfl rfl rfl rfl ?_
            refine sk s90 rfl rfl rfl rfl ?_
            refine sk s90 rfl rfl rfl rfl ?_
            refine sk s90 rfl rfl rfl rfl ?_
            refine sk s90 rfl rfl rfl rfl ?_
            simp only [List.set_cons_zero, List.set_cons_succ]
            refine sk s90 rfl rfl rfl rfl ?_
            refine sk s90 rfl rfl rfl rfl ?_
            refine sk s90 rfl rfl rfl rfl ?_
            refine sq (v := .bool false) rfl (r_pick rfl rfl rfl) rfl rfl rfl ?_
            refine sch_end ?_
            simp only [List.set_cons_zero, List.set_cons_succ]
            have x6 := SG.blk s90 x6 (by simp)
            have x76 := SG.blk s90 x76 (by simp)
            have c125 := (SG.belowR c87 s90 (fun kq e => by cases e))
            refine h19 _ _ ?_
            refine wp_cond_false rfl ?_
            refine wp_skip ?_
            refine h16 _ _ ?_
            refine region_quiet [(0, false), (1, false)] rfl ?_
            refine sq (v := .int .i64 ((i + 1 : Nat) : Int)) rfl (r_add (z := ((i + 1 : Nat) : Int)) rfl rfl rfl (by omega) (by omega)) rfl rfl rfl ?_
            refine sq (v := .int .i64 ((i + 1 : Nat) : Int)) rfl (r_move rfl rfl) rfl rfl rfl ?_
            refine sch_end ?_
            simp only [List.set_cons_zero, List.set_cons_succ]
            exact h13 _ _ _ (by omega : (n - (i + 1)) < _) ⟨i + 1, _, _, _, _, _, _, _, _, _, _, _, _, _, _, _, _, _, _, _, _, _, _, _, _, _, _, _, _, _, rfl, rfl, (by omega), (upto_succ (Q := fun q => ¬ (0 < otherOf q z ∧ distOf (joined ps) v (otherOf q z) = distOf (joined ps) v z - 1)) hno hx53 (by omega)), x6, ho91, ho92, c125⟩
        · refine sq (v := .bool false) rfl (r_neq rfl rfl rfl (decide_eq_false q49)) rfl rfl rfl ?_
          refine sch_end ?_
          simp only [List.set_cons_zero, List.set_cons_succ]
          refine h11 _ _ ?_
          refine wp_cond_false rfl ?_
          refine wp_exit ?_
          refine h8 _ _ ?_
          refine wp_seq_k (fun K22 h22 => ?_)
          refine region_quiet [(0, false), (1, false), (2, false)] rfl ?_
          refine sq (v := .slice A0_9 n0_9 c0_9) rfl (r_move rfl rfl) rfl rfl rfl ?_
          refine sq (v := .slice A0_9 n0_9 c0_9) rfl (r_assign rfl rfl) rfl rfl rfl ?_
          refine sq (v := .bool true) rfl (r_assign rfl rfl) rfl rfl rfl ?_
          refine sch_end ?_
          simp only [List.set_cons_zero, List.set_cons_succ]
          refine h22 _ _ ?_
          refine wp_ret ?_
          try simp only [Exit.then]
          refine ret2 rfl rfl rfl ?_
          have e8 : ShortestWay_v1 m ps u v = true := ShortestWay_ok.2 ⟨⟨Bool.and_eq_true_iff.1 q14, (Bool.and_eq_true_iff.1 q14).1, q18⟩, by omega⟩
          have e9 : way = wayL (distOf (joined ps) v) ps (distOf (joined ps) v u).toNat u := by rw [← hw, show z = v by omega, dist_self]; simp [wayL]
          exact fin_ints ho0_9 (by unfold ShortestWay_v0; rw [if_pos e8]; exact e9) e8.symm c48
    · rw [q18]
      refine sq (v := .bool true) rfl (r_not rfl rfl rfl) rfl rfl rfl ?_
      refine sq (v := .bool true) rfl (r_pick rfl rfl rfl) rfl rfl rfl ?_
      simp only [List.set_cons_zero, List.set_cons_succ]
      refine sch_end ?_
      have x6 := SG.blk s17 x6 (by simp)
      have c126 := (SG.belowR c9 s17 (fun kq e => by cases e))
      refine h3 _ _ ?_
      refine wp_cond_true rfl ?_
      refine wp_seq_k (fun K23 h23 => ?_)
      refine region_quiet [(0, false), (1, false)] rfl ?_
      refine sq (v := .slice none 0 0) rfl (r_assign rfl rfl) rfl rfl rfl ?_
      refine sq (v := .bool false) rfl (r_assign rfl rfl) rfl rfl rfl ?_
      refine sch_end ?_
      simp only [List.set_cons_zero, List.set_cons_succ]
      refine h23 _ _ ?_
      refine wp_ret ?_
      try simp only [Exit.then]
      refine ret2 rfl rfl rfl ?_
      have e8 : ShortestWay_v1 m ps u v = false := Bool.eq_false_iff.2 (fun h8 => by have h9 := ShortestWay_ok.1 h8; have h7 := h9.1.2; rw [q18] at h7; cases h7.2)
      exact fin_ints (zs := []) (World.ownsRow_nil _ _ _ _) (by unfold ShortestWay_v0; rw [if_neg (by rw [e8]; simp)]) e8.symm c126
  · rw [q14]
    refine sq (v := .bool true) rfl (r_not rfl rfl rfl) rfl rfl rfl ?_
    refine sq (v := .bool true) rfl (r_move rfl rfl) rfl rfl rfl ?_
    simp only [List.set_cons_zero, List.set_cons_succ]
    refine sk s13 rfl rfl rfl rfl ?_
    refine sk s13 rfl rfl rfl rfl ?_
    refine sk s13 rfl rfl rfl rfl ?_
    refine sk s13 rfl rfl rfl rfl ?_
    refine sq (v := .bool true) rfl (r_pick rfl rfl rfl) rfl rfl rfl ?_
    simp only [List.set_cons_zero, List.set_cons_succ]
    refine sch_end ?_
    have x6 := SG.blk s13 x6 (by simp)
    have c127 := (SG.belowR c9 s13 (fun kq e => by cases e))
    refine h3 _ _ ?_
    refine wp_cond_true rfl ?_
    refine wp_seq_k (fun K24 h24 => ?_)
    refine region_quiet [(0, false), (1, false)] rfl ?_
    refine sq (v := .slice none 0 0) rfl (r_assign rfl rfl) rfl rfl rfl ?_
    refine sq (v := .bool false) rfl (r_assign rfl rfl) rfl rfl rfl ?_
    refine sch_end ?_
    simp only [List.set_cons_zero, List.set_cons_succ]
    refine h24 _ _ ?_
    refine wp_ret ?_
    try simp only [Exit.then]
    refine ret2 rfl rfl rfl ?_
    have e8 : ShortestWay_v1 m ps u v = false := Bool.eq_false_iff.2 (fun h8 => by have h9 := ShortestWay_ok.1 h8; have h7 := h9.1.1; rw [Bool.and_eq_false_iff] at q14; rcases q14 with h6 | h6 <;> simp [h6] at h7)
    exact fin_ints (zs := []) (World.ownsRow_nil _ _ _ _) (by unfold ShortestWay_v0; rw [if_neg (by rw [e8]; simp)]) e8.symm c127

end Go.Proofs.Ytdlcldaogcbnlaa
