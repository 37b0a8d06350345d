/- The pipes at a node: both packages make one list. -/
import Derived.Test.YtdlcldaogcbnlaaNetC
namespace Go.Proofs.Ytdlcldaogcbnlaa
open Go.RowKit
set_option linter.unusedVariables false

def atL (ps : List Pp) (u : Int) : List Int := (ps.filter (fun p => decide (p.fr = u) || decide (p.to = u))).map Pp.id
theorem atL_len (ps : List Pp) (u : Int) : (atL ps u).length ≤ ps.length := by unfold atL; rw [List.length_map]; exact List.length_filter_le _ _
theorem atL_yes {ps : List Pp} {u : Int} {k : Nat} {x : Pp} (hx : ps[k]? = some x) (h : x.fr = u ∨ x.to = u) : atL (ps.take (k + 1)) u = atL (ps.take k) u ++ [x.id] := by
  unfold atL
  rw [List.take_add_one, hx, Option.toList_some, List.filter_append, List.map_append, List.filter_cons_of_pos (by simpa using h)]; rfl
theorem atL_no {ps : List Pp} {u : Int} {k : Nat} {x : Pp} (hx : ps[k]? = some x) (h : ¬ (x.fr = u ∨ x.to = u)) : atL (ps.take (k + 1)) u = atL (ps.take k) u := by
  unfold atL
  rw [List.take_add_one, hx, Option.toList_some, List.filter_append, List.filter_cons_of_neg (by simpa using h)]; simp
theorem atL_all {ps : List Pp} {u : Int} {n k : Nat} (hl : ps.length = n) (hk : n ≤ k) : atL (ps.take k) u = atL ps u := by rw [List.take_of_length_le (by omega)]
def PipesAt_v0 (m : Int) (ps : List Pp) (u : Int) : List Int := if (goodN m ps && inB u 1 m) = true then atL ps u else []
def PipesAt_v1 (m : Int) (ps : List Pp) (u : Int) : Bool := goodN m ps && inB u 1 m
theorem PipesAt_len (m : Int) (ps : List Pp) (u : Int) : (PipesAt_v0 m ps u).length ≤ 1048576 := by
  unfold PipesAt_v0
  split
  · rename_i h
    rw [Bool.and_eq_true] at h
    have := (good_of h.1).len
    have := atL_len ps u
    omega
  · simp

set_option maxRecDepth 100000 in
set_option maxHeartbeats 1000000 in
theorem PipesAt_spec (m : Int) (A : Option Addr) (n c : Nat) (ps : List Pp) (v : Int) (w : World) (ha : Rd w 4 A n (pipesV ps)) (hn : n ≤ 1048576) :
    Calls Try.prog 22 #[.agg #[.int .i64 m, .slice A n c], .int .i64 v] w fun e w' => ∃ A' d, e = .returned (.tuple #[.slice A' (PipesAt_v0 m ps v).length d, .bool (PipesAt_v1 m ps v)]) ∧ w'.ownsRow w.heap.size 3 1 (.slice A' (PipesAt_v0 m ps v).length d) (PipesAt_v0 m ps v).length (intsV (PipesAt_v0 m ps v)) ∧ Below w.heap.size w w' := by
  have hl := rd_pipes_len ha
  go_enter Try.func22, Try.ntmps22
  refine wp_seq_k (fun K1 h1 => ?_)
  refine region_plain (row := none) [(0, true), (1, false), (2, false)] rfl ?_
  have s1 := SG.self w none
  refine sn (fun b => .pointer (some ⟨b, 0, none⟩)) #[.int .i64 m, .slice A n c] 31 s1 rfl rfl rfl (fun _ => by kernel_rfl) (fun b2 w3 hb4 k5 x6 s7 => ?_)
  have lo8 : w.heap.size ≤ b2 := by have := ((SG.belowR (Below.refl _ _) s1 (fun kq e => by cases e))).size; omega
  refine sq (v := .slice none 0 0) rfl (r_assign rfl rfl) rfl rfl rfl ?_
  refine sq (v := .bool false) rfl (r_assign rfl rfl) rfl rfl rfl ?_
  refine sch_end ?_
  simp only [List.set_cons_zero, List.set_cons_succ]
  have c9 := (SG.belowR (Below.refl _ _) s7 (fun kq e => by cases e))
  refine h1 _ _ ?_
  refine wp_seq_k (fun K2 h2 => ?_)
  refine region_plain (row := none) [(0, true), (1, false)] rfl ?_
  have s10 := SG.self w3 none
  refine sn (fun b => .slice (some ⟨b, 0, none⟩) 0 0) #[] 3 s10 rfl rfl rfl (fun _ => by kernel_rfl) (fun b11 w12 hb13 k14 x15 s16 => ?_)
  have lo17 : w.heap.size ≤ b11 := by have := ((SG.belowR c9 s10 (fun kq e => by cases e))).size; omega
  have ne18 : b2 ≠ b11 := by have := blk_lt x6; have := World.grownBy.size s10; omega
  refine sq (v := .slice (some ⟨b11, 0, none⟩) 0 0) rfl (r_assign rfl rfl) rfl rfl rfl ?_
  refine sch_end ?_
  simp only [List.set_cons_zero, List.set_cons_succ]
  have x6 := SG.blk s16 x6 (by simp)
  have c19 := (SG.belowR c9 s16 (fun kq e => by cases e))
  refine h2 _ _ ?_
  refine wp_seq_k (fun K3 h3 => ?_)
  refine wp_seq_k (fun K4 h4 => ?_)
  refine region_plain (row := none) [(0, false), (1, false), (2, true), (3, false)] rfl ?_
  have s20 := SG.self w12 none
  refine sq (v := .agg #[.int .i64 m, .slice A n c]) rfl (r_load2 rfl rfl (by kernel_rfl) (by kernel_rfl) (sgS (blk_cell (j := 0) x6 rfl) (by simp)) (sgS (blk_cell (j := 1) x6 rfl) (by simp))) rfl rfl rfl ?_
  refine sq (v := .int .i64 v) rfl (r_move rfl rfl) rfl rfl rfl ?_
  refine sc (vs := [.agg #[.int .i64 m, .slice A n c], .int .i64 v]) rfl rfl rfl (by kernel_rfl) rfl rfl (l2Node_any m A n c ps v _ (Rd.kept ha (SG.belowR c19 s20 (fun kq e => by cases e))) (by omega)) ?_
  rintro e w22 ⟨rfl, b21⟩
  have s23 := SG.of_below s20 b21
  refine ⟨_, rfl, s23, ?_⟩
  rcases Bool.eq_false_or_eq_true (goodN m ps && inB v 1 m) with q24 | q24
  · rw [q24]
    refine sq (v := .bool false) rfl (r_not rfl rfl rfl) rfl rfl rfl ?_
    refine sch_end ?_
    simp only [List.set_cons_zero, List.set_cons_succ]
    have x6 := SG.blk s23 x6 (by simp)
    have x15 := SG.blk s23 x15 (by simp)
    have c25 := (SG.belowR c19 s23 (fun kq e => by cases e))
    refine h4 _ _ ?_
    refine wp_cond_false rfl ?_
    refine wp_skip ?_
    refine h3 _ _ ?_
    refine wp_seq_k (fun K5 h5 => ?_)
    refine wp_seq_k (fun K6 h6 => ?_)
    refine region_quiet [(0, false)] rfl ?_
    refine sq (v := .int .i64 0) rfl (r_assign rfl rfl) rfl rfl rfl ?_
    refine sch_end ?_
    simp only [List.set_cons_zero, List.set_cons_succ]
    refine h6 _ _ ?_
    refine wp_block ?_
    have ho26 := own_empty (base := w.heap.size) (size := 1) x15 lo17
    replace ho26 : World.ownsRow _ _ _ _ _ _ (intsV []) := ho26
    have nb27 : Nb b2 (.slice (some ⟨b11, 0, none⟩) 0 0) := nb_new (by have := ne18; omega)
    refine loopK (fun am0 aa0 wl0 => ∃ (k : Nat) (A0_6 : Option Addr) (n0_6 : Nat) (c0_6 : Nat) (u0_14 u0_15 u0_16 u0_17 u0_18 u0_19 u0_20 u0_21 u0_22 u0_23 u0_24 u0_25 u0_26 u0_27 u0_28 u0_29 u0_30 u0_31 u0_32 u0_33 u0_34 u0_35 u0_36 u0_37 u0_38 u0_39 u0_40 u0_41 u0_42 u0_43 u0_44 u0_45 u0_46 u0_47 : Value), aa0 = ⟨[.agg #[.int .i64 m, .slice A n c], .int .i64 v, .pointer (some ⟨b2, 0, none⟩), undef, .slice none 0 0, .bool false, .slice A0_6 n0_6 c0_6, .int .i64 ((k : Nat) : Int), .slice (some ⟨b11, 0, none⟩) 0 0, .agg #[.int .i64 m, .slice A n c], .int .i64 v, .bool true, .bool false, undef, u0_14, u0_15, u0_16, u0_17, u0_18, u0_19, u0_20, u0_21, u0_22, u0_23, u0_24, u0_25, u0_26, u0_27, u0_28, u0_29, u0_30, u0_31, u0_32, u0_33, u0_34, u0_35, u0_36, u0_37, u0_38, u0_39, u0_40, u0_41, u0_42, u0_43, u0_44, u0_45, u0_46, u0_47, undef].toArray, []⟩ ∧ (am0 = n - k) ∧ (k ≤ n) ∧ (n0_6 ≤ k) ∧ (wl0.heap[b2]? = some (.cells #[.int .i64 m, .slice A n c] 31 (0, 0))) ∧ (wl0.ownsRow w.heap.size 3 1 (.slice A0_6 n0_6 c0_6) n0_6 (intsV (atL (ps.take k) v))) ∧ (Nb b2 (.slice A0_6 n0_6 c0_6)) ∧ (Below w.heap.size w wl0)) (n - 0) ?_ ?_
    · exact ⟨0, (some ⟨b11, 0, none⟩), 0, 0, _, _, _, _, _, _, _, _, _, _, _, _, _, _, _, _, _, _, _, _, _, _, _, _, _, _, _, _, _, _, _, _, _, _, rfl, rfl, (Nat.zero_le _), (Nat.zero_le _), x6, ho26, nb27, c25⟩
    rintro am0 aa0 wl0 K7 h7 ⟨k, A0_6, n0_6, c0_6, u0_14, u0_15, u0_16, u0_17, u0_18, u0_19, u0_20, u0_21, u0_22, u0_23, u0_24, u0_25, u0_26, u0_27, u0_28, u0_29, u0_30, u0_31, u0_32, u0_33, u0_34, u0_35, u0_36, u0_37, u0_38, u0_39, u0_40, u0_41, u0_42, u0_43, u0_44, u0_45, u0_46, u0_47, rfl, rfl, hk, hb6, x6, ho0_6, nb0_6_b2, c28⟩
    refine wp_seq_k (fun K8 h8 => ?_)
    refine wp_seq_k (fun K9 h9 => ?_)
    refine region_quiet [(0, false), (1, false), (2, false), (3, false), (4, false)] rfl ?_
    refine sq (v := .int .i64 ((k : Nat) : Int)) rfl (r_move rfl rfl) rfl rfl rfl ?_
    refine sq (v := .pointer (some ⟨b2, 1, none⟩)) rfl (r_field (k := 1) rfl rfl (by kernel_rfl)) rfl rfl rfl ?_
    refine sq (v := .slice A n c) rfl (r_load rfl rfl (by kernel_rfl) (eqS (blk_cell (j := 1) x6 rfl))) rfl rfl rfl ?_
    refine sq (v := .int .i64 ((n : Nat) : Int)) rfl (r_len rfl rfl (by kernel_rfl)) rfl rfl rfl ?_
    by_cases q29 : (((k : Nat) : Int) : Int) < (((n : Nat) : Int) : Int)
    · refine sq (v := .bool true) rfl (r_lss rfl rfl rfl (decide_eq_true q29)) rfl rfl rfl ?_
      simp only [List.set_cons_zero, List.set_cons_succ]
      refine sch_end ?_
      refine h9 _ _ ?_
      refine wp_cond_true rfl ?_
      refine wp_skip ?_
      refine h8 _ _ ?_
      refine wp_seq_k (fun K10 h10 => ?_)
      refine wp_block ?_
      refine wp_seq_k (fun K11 h11 => ?_)
      refine region_quiet [(0, false), (1, false), (2, false), (3, false), (4, false), (5, false), (6, false), (7, false), (8, false), (9, false), (10, false), (11, false), (12, false), (13, false), (14, false), (15, false), (16, false), (17, false)] rfl ?_
      refine sq (v := .pointer (some ⟨b2, 1, none⟩)) rfl (r_field (k := 1) rfl rfl (by kernel_rfl)) rfl rfl rfl ?_
      refine sq (v := .slice A n c) rfl (r_load rfl rfl (by kernel_rfl) (eqS (blk_cell (j := 1) x6 rfl))) rfl rfl rfl ?_
      refine sq (v := .int .i64 ((k : Nat) : Int)) rfl (r_move rfl rfl) rfl rfl rfl ?_
      obtain ⟨x30, hx31⟩ := get_of (zs := ps) (k := k) (by have := hl; omega)
      obtain ⟨b32, o33, hA34, hb35, hc36, hc37, hc38, hc39⟩ := Rd.elPipe ha hx31
      refine sq (v := .pointer (some ⟨b32, o33 + k * 4, none⟩)) rfl (r_idx (k := k) rfl rfl hA34 rfl (by kernel_rfl) (by have := hl; omega)) rfl rfl rfl ?_
      refine sq (v := .pointer (some ⟨b32, o33 + k * 4 + 1, none⟩)) rfl (r_field (k := 1) rfl rfl (by kernel_rfl)) rfl rfl rfl ?_
      simp only [List.set_cons_zero, List.set_cons_succ]
      refine sq (v := .int .i64 x30.fr) rfl (r_load rfl rfl (by kernel_rfl) (eqS (later c28 hc37))) rfl rfl rfl ?_
      refine sq (v := .int .i64 v) rfl (r_move rfl rfl) rfl rfl rfl ?_
      by_cases q40 : (x30.fr : Int) = (v : Int)
      · refine sq (v := .bool true) rfl (r_eql rfl rfl rfl (decide_eq_true q40)) rfl rfl rfl ?_
        refine sq (v := .bool true) rfl (r_move rfl rfl) rfl rfl rfl ?_
        refine sk rfl rfl rfl rfl rfl ?_
        simp only [List.set_cons_zero, List.set_cons_succ]
        refine sk rfl rfl rfl rfl rfl ?_
        refine sk rfl rfl rfl rfl rfl ?_
        refine sk rfl rfl rfl rfl rfl ?_
        refine sk rfl rfl rfl rfl rfl ?_
        refine sk rfl rfl rfl rfl rfl ?_
        simp only [List.set_cons_zero, List.set_cons_succ]
        refine sk rfl rfl rfl rfl rfl ?_
        refine sk rfl rfl rfl rfl rfl ?_
        refine sq (v := .bool true) rfl (r_pick rfl rfl rfl) rfl rfl rfl ?_
        refine sch_end ?_
        simp only [List.set_cons_zero, List.set_cons_succ]
        refine h11 _ _ ?_
        refine wp_cond_true rfl ?_
        refine region_plain (row := (Value.ownBlock (.slice A0_6 n0_6 c0_6))) [(0, false), (1, false), (2, false), (3, false), (4, false), (5, false), (6, false), (7, true), (8, true), (9, false)] rfl ?_
        have s41 := SG.self wl0 (Value.ownBlock (.slice A0_6 n0_6 c0_6))
        refine sq (v := .slice A0_6 n0_6 c0_6) rfl (r_move rfl rfl) rfl rfl rfl ?_
        refine sq (v := .pointer (some ⟨b2, 1, none⟩)) rfl (r_field (k := 1) rfl rfl (by kernel_rfl)) rfl rfl rfl ?_
        refine sq (v := .slice A n c) rfl (r_load rfl rfl (by kernel_rfl) (sgS (blk_cell (j := 1) x6 rfl) nb0_6_b2)) rfl rfl rfl ?_
        refine sq (v := .int .i64 ((k : Nat) : Int)) rfl (r_move rfl rfl) rfl rfl rfl ?_
        refine sq (v := .pointer (some ⟨b32, o33 + k * 4, none⟩)) rfl (r_idx (k := k) rfl rfl hA34 rfl (by kernel_rfl) (by have := hl; omega)) rfl rfl rfl ?_
        simp only [List.set_cons_zero, List.set_cons_succ]
        refine sq (v := .pointer (some ⟨b32, o33 + k * 4, none⟩)) rfl (r_field0 rfl rfl (by kernel_rfl)) rfl rfl rfl ?_
        refine sq (v := .int .i64 x30.id) rfl (r_load rfl rfl (by kernel_rfl) (sgS (later c28 hc36) (nb_lo ho0_6 hb35))) rfl rfl rfl ?_
        refine sn (fun b => .slice (some ⟨b, 0, none⟩) 1 1) #[.int .i64 x30.id] 3 s41 rfl rfl rfl (fun _ => by kernel_rfl) (fun b42 w43 hb44 k45 x46 s47 => ?_)
        have lo48 : w.heap.size ≤ b42 := by have := ((SG.belowR c28 s41 (fun kq e => (World.ownsRow.lt ho0_6 kq e).1))).size; omega
        have ne49 : b2 ≠ b42 := by have := blk_lt x6; have := World.grownBy.size s41; omega
        have nb50 : Nb b42 (.slice A0_6 n0_6 c0_6) := nb_hi ho0_6 (Nat.le_of_eq hb44)
        have ho51 := own_kept ho0_6 k45
        refine sap (e := 3) (size := 1) (base := w.heap.size) (m := 1) s47 rfl rfl rfl rfl rfl rfl (by kernel_rfl) ho51 x46 rfl rfl (by omega) (by omega) (by have := ((SG.belowR c28 s47 (fun kq e => (World.ownsRow.lt ho0_6 kq e).1))).size; omega) (.inl rfl) (fun g52 cap53 w54 ho55 hg56 hat57 hlt58 s59 => ?_)
        have nb60 : Nb b2 (.slice (some ⟨g52, 0, none⟩) (n0_6 + 1) cap53) := nb_app nb0_6_b2 (Nat.lt_of_lt_of_le (blk_lt x6) (World.grownBy.size s47)) hat57
        have nb61 : Nb b42 (.slice (some ⟨g52, 0, none⟩) (n0_6 + 1) cap53) := nb_app nb50 (blk_lt x46) hat57
        have x46 := (hg56.block _ (blk_lt x46) nb50).trans x46
        have ho55 := own_snoc ho55
        refine sq (v := .slice (some ⟨g52, 0, none⟩) (n0_6 + 1) cap53) rfl (r_assign rfl rfl) rfl rfl rfl ?_
        simp only [List.set_cons_zero, List.set_cons_succ]
        refine sch_end ?_
        have x6 := SG.blk s59 x6 nb0_6_b2
        have c62 := (SG.belowR c28 s59 (fun kq e => (World.ownsRow.lt ho0_6 kq e).1))
        refine h10 _ _ ?_
        refine region_quiet [(0, false), (1, false), (2, false)] rfl ?_
        refine sq (v := .int .i64 ((k : Nat) : Int)) rfl (r_move rfl rfl) rfl rfl rfl ?_
        refine sq (v := .int .i64 ((k + 1 : Nat) : Int)) rfl (r_add (z := ((k + 1 : Nat) : Int)) rfl rfl rfl (by omega) (by omega)) rfl rfl rfl ?_
        refine sq (v := .int .i64 ((k + 1 : Nat) : Int)) rfl (r_assign rfl rfl) rfl rfl rfl ?_
        refine sch_end ?_
        simp only [List.set_cons_zero, List.set_cons_succ]
        exact h7 _ _ _ (by omega : (n - (k + 1)) < _) ⟨k + 1, (some ⟨g52, 0, none⟩), (n0_6 + 1), cap53, _, _, _, _, _, _, _, _, _, _, _, _, _, _, _, _, _, _, _, _, _, _, _, _, _, _, _, _, _, _, _, _, _, _, rfl, rfl, (by omega), (by omega), x6, (by rw [atL_yes hx31 (by omega)]; exact ho55), nb60, c62⟩
      · refine sq (v := .bool false) rfl (r_eql rfl rfl rfl (decide_eq_false q40)) rfl rfl rfl ?_
        refine sq (v := .bool false) rfl (r_move rfl rfl) rfl rfl rfl ?_
        refine sq (v := .pointer (some ⟨b2, 1, none⟩)) rfl (r_field (k := 1) rfl rfl (by kernel_rfl)) rfl rfl rfl ?_
        simp only [List.set_cons_zero, List.set_cons_succ]
        refine sq (v := .slice A n c) rfl (r_load rfl rfl (by kernel_rfl) (eqS (blk_cell (j := 1) x6 rfl))) rfl rfl rfl ?_
        refine sq (v := .int .i64 ((k : Nat) : Int)) rfl (r_move rfl rfl) rfl rfl rfl ?_
        refine sq (v := .pointer (some ⟨b32, o33 + k * 4, none⟩)) rfl (r_idx (k := k) rfl rfl hA34 rfl (by kernel_rfl) (by have := hl; omega)) rfl rfl rfl ?_
        refine sq (v := .pointer (some ⟨b32, o33 + k * 4 + 2, none⟩)) rfl (r_field (k := 2) rfl rfl (by kernel_rfl)) rfl rfl rfl ?_
        refine sq (v := .int .i64 x30.to) rfl (r_load rfl rfl (by kernel_rfl) (eqS (later c28 hc38))) rfl rfl rfl ?_
        simp only [List.set_cons_zero, List.set_cons_succ]
        refine sq (v := .int .i64 v) rfl (r_move rfl rfl) rfl rfl rfl ?_
        by_cases q63 : (x30.to : Int) = (v : Int)
        · refine sq (v := .bool true) rfl (r_eql rfl rfl rfl (decide_eq_true q63)) rfl rfl rfl ?_
          refine sq (v := .bool true) rfl (r_pick rfl rfl rfl) rfl rfl rfl ?_
          refine sch_end ?_
          simp only [List.set_cons_zero, List.set_cons_succ]
          refine h11 _ _ ?_
          refine wp_cond_true rfl ?_
          refine region_plain (row := (Value.ownBlock (.slice A0_6 n0_6 c0_6))) [(0, false), (1, false), (2, false), (3, false), (4, false), (5, false), (6, false), (7, true), (8, true), (9, false)] rfl ?_
          have s64 := SG.self wl0 (Value.ownBlock (.slice A0_6 n0_6 c0_6))
          refine sq (v := .slice A0_6 n0_6 c0_6) rfl (r_move rfl rfl) rfl rfl rfl ?_
          refine sq (v := .pointer (some ⟨b2, 1, none⟩)) rfl (r_field (k := 1) rfl rfl (by kernel_rfl)) rfl rfl rfl ?_
          refine sq (v := .slice A n c) rfl (r_load rfl rfl (by kernel_rfl) (sgS (blk_cell (j := 1) x6 rfl) nb0_6_b2)) rfl rfl rfl ?_
          refine sq (v := .int .i64 ((k : Nat) : Int)) rfl (r_move rfl rfl) rfl rfl rfl ?_
          refine sq (v := .pointer (some ⟨b32, o33 + k * 4, none⟩)) rfl (r_idx (k := k) rfl rfl hA34 rfl (by kernel_rfl) (by have := hl; omega)) rfl rfl rfl ?_
          simp only [List.set_cons_zero, List.set_cons_succ]
          refine sq (v := .pointer (some ⟨b32, o33 + k * 4, none⟩)) rfl (r_field0 rfl rfl (by kernel_rfl)) rfl rfl rfl ?_
          refine sq (v := .int .i64 x30.id) rfl (r_load rfl rfl (by kernel_rfl) (sgS (later c28 hc36) (nb_lo ho0_6 hb35))) rfl rfl rfl ?_
          refine sn (fun b => .slice (some ⟨b, 0, none⟩) 1 1) #[.int .i64 x30.id] 3 s64 rfl rfl rfl (fun _ => by kernel_rfl) (fun b65 w66 hb67 k68 x69 s70 => ?_)
          have lo71 : w.heap.size ≤ b65 := by have := ((SG.belowR c28 s64 (fun kq e => (World.ownsRow.lt ho0_6 kq e).1))).size; omega
          have ne72 : b2 ≠ b65 := by have := blk_lt x6; have := World.grownBy.size s64; omega
          have nb73 : Nb b65 (.slice A0_6 n0_6 c0_6) := nb_hi ho0_6 (Nat.le_of_eq hb67)
          have ho74 := own_kept ho0_6 k68
          refine sap (e := 3) (size := 1) (base := w.heap.size) (m := 1) s70 rfl rfl rfl rfl rfl rfl (by kernel_rfl) ho74 x69 rfl rfl (by omega) (by omega) (by have := ((SG.belowR c28 s70 (fun kq e => (World.ownsRow.lt ho0_6 kq e).1))).size; omega) (.inl rfl) (fun g75 cap76 w77 ho78 hg79 hat80 hlt81 s82 => ?_)
          have nb83 : Nb b2 (.slice (some ⟨g75, 0, none⟩) (n0_6 + 1) cap76) := nb_app nb0_6_b2 (Nat.lt_of_lt_of_le (blk_lt x6) (World.grownBy.size s70)) hat80
          have nb84 : Nb b65 (.slice (some ⟨g75, 0, none⟩) (n0_6 + 1) cap76) := nb_app nb73 (blk_lt x69) hat80
          have x69 := (hg79.block _ (blk_lt x69) nb73).trans x69
          have ho78 := own_snoc ho78
          refine sq (v := .slice (some ⟨g75, 0, none⟩) (n0_6 + 1) cap76) rfl (r_assign rfl rfl) rfl rfl rfl ?_
          simp only [List.set_cons_zero, List.set_cons_succ]
          refine sch_end ?_
          have x6 := SG.blk s82 x6 nb0_6_b2
          have c85 := (SG.belowR c28 s82 (fun kq e => (World.ownsRow.lt ho0_6 kq e).1))
          refine h10 _ _ ?_
          refine region_quiet [(0, false), (1, false), (2, false)] rfl ?_
          refine sq (v := .int .i64 ((k : Nat) : Int)) rfl (r_move rfl rfl) rfl rfl rfl ?_
          refine sq (v := .int .i64 ((k + 1 : Nat) : Int)) rfl (r_add (z := ((k + 1 : Nat) : Int)) rfl rfl rfl (by omega) (by omega)) rfl rfl rfl ?_
          refine sq (v := .int .i64 ((k + 1 : Nat) : Int)) rfl (r_assign rfl rfl) rfl rfl rfl ?_
          refine sch_end ?_
          simp only [List.set_cons_zero, List.set_cons_succ]
          exact h7 _ _ _ (by omega : (n - (k + 1)) < _) ⟨k + 1, (some ⟨g75, 0, none⟩), (n0_6 + 1), cap76, _, _, _, _, _, _, _, _, _, _, _, _, _, _, _, _, _, _, _, _, _, _, _, _, _, _, _, _, _, _, _, _, _, _, rfl, rfl, (by omega), (by omega), x6, (by rw [atL_yes hx31 (by omega)]; exact ho78), nb83, c85⟩
        · refine sq (v := .bool false) rfl (r_eql rfl rfl rfl (decide_eq_false q63)) rfl rfl rfl ?_
          refine sq (v := .bool false) rfl (r_pick rfl rfl rfl) rfl rfl rfl ?_
          refine sch_end ?_
          simp only [List.set_cons_zero, List.set_cons_succ]
          refine h11 _ _ ?_
          refine wp_cond_false rfl ?_
          refine wp_skip ?_
          refine h10 _ _ ?_
          refine region_quiet [(0, false), (1, false), (2, false)] rfl ?_
          refine sq (v := .int .i64 ((k : Nat) : Int)) rfl (r_move rfl rfl) rfl rfl rfl ?_
          refine sq (v := .int .i64 ((k + 1 : Nat) : Int)) rfl (r_add (z := ((k + 1 : Nat) : Int)) rfl rfl rfl (by omega) (by omega)) rfl rfl rfl ?_
          refine sq (v := .int .i64 ((k + 1 : Nat) : Int)) rfl (r_assign rfl rfl) rfl rfl rfl ?_
          refine sch_end ?_
          simp only [List.set_cons_zero, List.set_cons_succ]
          exact h7 _ _ _ (by omega : (n - (k + 1)) < _) ⟨k + 1, A0_6, n0_6, c0_6, _, _, _, _, _, _, _, _, _, _, _, _, _, _, _, _, _, _, _, _, _, _, _, _, _, _, _, _, _, _, _, _, _, _, rfl, rfl, (by omega), (by omega), x6, (by rw [atL_no hx31 (by omega)]; exact ho0_6), nb0_6_b2, c28⟩
    · refine sq (v := .bool false) rfl (r_lss rfl rfl rfl (decide_eq_false q29)) rfl rfl rfl ?_
      simp only [List.set_cons_zero, List.set_cons_succ]
      refine sch_end ?_
      refine h9 _ _ ?_
      refine wp_cond_false rfl ?_
      refine wp_exit ?_
      refine h5 _ _ ?_
      refine wp_seq_k (fun K12 h12 => ?_)
      refine region_quiet [(0, false), (1, false), (2, false)] rfl ?_
      refine sq (v := .slice A0_6 n0_6 c0_6) rfl (r_move rfl rfl) rfl rfl rfl ?_
      refine sq (v := .slice A0_6 n0_6 c0_6) rfl (r_assign rfl rfl) rfl rfl rfl ?_
      refine sq (v := .bool true) rfl (r_assign rfl rfl) rfl rfl rfl ?_
      refine sch_end ?_
      simp only [List.set_cons_zero, List.set_cons_succ]
      refine h12 _ _ ?_
      refine wp_ret ?_
      try simp only [Exit.then]
      refine ret2 rfl rfl rfl ?_
      exact fin_ints ho0_6 (by unfold PipesAt_v0; rw [if_pos q24]; exact atL_all hl (by omega)) (by unfold PipesAt_v1; exact q24.symm) c28
  · rw [q24]
    refine sq (v := .bool true) rfl (r_not rfl rfl rfl) rfl rfl rfl ?_
    refine sch_end ?_
    simp only [List.set_cons_zero, List.set_cons_succ]
    have x6 := SG.blk s23 x6 (by simp)
    have x15 := SG.blk s23 x15 (by simp)
    have c86 := (SG.belowR c19 s23 (fun kq e => by cases e))
    refine h4 _ _ ?_
    refine wp_cond_true rfl ?_
    refine wp_seq_k (fun K13 h13 => ?_)
    refine region_quiet [(0, false), (1, false), (2, false)] rfl ?_
    refine sq (v := .slice (some ⟨b11, 0, none⟩) 0 0) rfl (r_move rfl rfl) rfl rfl rfl ?_
    refine sq (v := .slice (some ⟨b11, 0, none⟩) 0 0) rfl (r_assign rfl rfl) rfl rfl rfl ?_
    refine sq (v := .bool false) rfl (r_assign rfl rfl) rfl rfl rfl ?_
    refine sch_end ?_
    simp only [List.set_cons_zero, List.set_cons_succ]
    refine h13 _ _ ?_
    refine wp_ret ?_
    try simp only [Exit.then]
    refine ret2 rfl rfl rfl ?_
    have ho87 := own_empty (base := w.heap.size) (size := 1) x15 lo17
    replace ho87 : World.ownsRow _ _ _ _ _ _ (intsV []) := ho87
    have nb88 : Nb b2 (.slice (some ⟨b11, 0, none⟩) 0 0) := nb_new (by have := ne18; omega)
    exact fin_ints (zs := []) ho87 (by unfold PipesAt_v0; rw [if_neg (by rw [q24]; simp)]) (by unfold PipesAt_v1; exact q24.symm) c86

set_option maxRecDepth 100000 in
set_option maxHeartbeats 1000000 in
theorem PipesAt_impl (m : Int) (A : Option Addr) (n c : Nat) (ps : List Pp) (v : Int) (w : World) (ha : Rd w 4 A n (pipesV ps)) (hn : n ≤ 1048576) :
    Calls Try.prog 21 #[.agg #[.int .i64 m, .slice A n c], .int .i64 v] w fun e w' => ∃ A' d, e = .returned (.tuple #[.slice A' (PipesAt_v0 m ps v).length d, .bool (PipesAt_v1 m ps v)]) ∧ w'.ownsRow w.heap.size 3 1 (.slice A' (PipesAt_v0 m ps v).length d) (PipesAt_v0 m ps v).length (intsV (PipesAt_v0 m ps v)) ∧ Below w.heap.size w w' := by
  have hl := rd_pipes_len ha
  go_enter Try.func21, Try.ntmps21
  refine wp_seq_k (fun K1 h1 => ?_)
  refine region_plain (row := none) [(0, true), (1, false), (2, false)] rfl ?_
  have s1 := SG.self w none
  refine sn (fun b => .pointer (some ⟨b, 0, none⟩)) #[.int .i64 m, .slice A n c] 31 s1 rfl rfl rfl (fun _ => by kernel_rfl) (fun b2 w3 hb4 k5 x6 s7 => ?_)
  have lo8 : w.heap.size ≤ b2 := by have := ((SG.belowR (Below.refl _ _) s1 (fun kq e => by cases e))).size; omega
  refine sq (v := .slice none 0 0) rfl (r_assign rfl rfl) rfl rfl rfl ?_
  refine sq (v := .bool false) rfl (r_assign rfl rfl) rfl rfl rfl ?_
  refine sch_end ?_
  simp only [List.set_cons_zero, List.set_cons_succ]
  have c9 := (SG.belowR (Below.refl _ _) s7 (fun kq e => by cases e))
  refine h1 _ _ ?_
  refine wp_seq_k (fun K2 h2 => ?_)
  refine wp_seq_k (fun K3 h3 => ?_)
  refine region_plain (row := none) [(0, false), (1, false), (2, true), (3, false)] rfl ?_
  have s10 := SG.self w3 none
  refine sq (v := .agg #[.int .i64 m, .slice A n c]) rfl (r_load2 rfl rfl (by kernel_rfl) (by kernel_rfl) (sgS (blk_cell (j := 0) x6 rfl) (by simp)) (sgS (blk_cell (j := 1) x6 rfl) (by simp))) rfl rfl rfl ?_
  refine sq (v := .int .i64 v) rfl (r_move rfl rfl) rfl rfl rfl ?_
  refine sc (vs := [.agg #[.int .i64 m, .slice A n c], .int .i64 v]) rfl rfl rfl (by kernel_rfl) rfl rfl (hasNode_any m A n c ps v _ (Rd.kept ha (SG.belowR c9 s10 (fun kq e => by cases e))) (by omega)) ?_
  rintro e w12 ⟨rfl, b11⟩
  have s13 := SG.of_below s10 b11
  refine ⟨_, rfl, s13, ?_⟩
  rcases Bool.eq_false_or_eq_true (goodN m ps && inB v 1 m) with q14 | q14
  · rw [q14]
    have hg := good_of (Bool.and_eq_true_iff.1 q14).1
    refine sq (v := .bool false) rfl (r_not rfl rfl rfl) rfl rfl rfl ?_
    refine sch_end ?_
    simp only [List.set_cons_zero, List.set_cons_succ]
    have x6 := SG.blk s13 x6 (by simp)
    have c15 := (SG.belowR c9 s13 (fun kq e => by cases e))
    refine h3 _ _ ?_
    refine wp_cond_false rfl ?_
    refine wp_skip ?_
    refine h2 _ _ ?_
    refine wp_seq_k (fun K4 h4 => ?_)
    refine region_plain (row := none) [(0, true), (1, false)] rfl ?_
    have s16 := SG.self w12 none
    refine sn (fun b => .slice (some ⟨b, 0, none⟩) 0 0) #[] 3 s16 rfl rfl rfl (fun _ => by kernel_rfl) (fun b17 w18 hb19 k20 x21 s22 => ?_)
    have lo23 : w.heap.size ≤ b17 := by have := ((SG.belowR c15 s16 (fun kq e => by cases e))).size; omega
    have ne24 : b2 ≠ b17 := by have := blk_lt x6; have := World.grownBy.size s16; omega
    refine sq (v := .slice (some ⟨b17, 0, none⟩) 0 0) rfl (r_assign rfl rfl) rfl rfl rfl ?_
    refine sch_end ?_
    simp only [List.set_cons_zero, List.set_cons_succ]
    have x6 := SG.blk s22 x6 (by simp)
    have c25 := (SG.belowR c15 s22 (fun kq e => by cases e))
    refine h4 _ _ ?_
    refine wp_seq_k (fun K5 h5 => ?_)
    refine wp_seq_k (fun K6 h6 => ?_)
    refine region_quiet [(0, false), (1, false), (2, false), (3, false)] rfl ?_
    refine sq (v := .pointer (some ⟨b2, 1, none⟩)) rfl (r_field (k := 1) rfl rfl (by kernel_rfl)) rfl rfl rfl ?_
    refine sq (v := .slice A n c) rfl (r_load rfl rfl (by kernel_rfl) (eqS (blk_cell (j := 1) x6 rfl))) rfl rfl rfl ?_
    refine sq (v := .int .i64 ((n : Nat) : Int)) rfl (r_len rfl rfl (by kernel_rfl)) rfl rfl rfl ?_
    refine sq (v := .int .i64 0) rfl (r_move rfl rfl) rfl rfl rfl ?_
    refine sch_end ?_
    simp only [List.set_cons_zero, List.set_cons_succ]
    refine h6 _ _ ?_
    refine wp_block ?_
    have ho26 := own_empty (base := w.heap.size) (size := 1) x21 lo23
    replace ho26 : World.ownsRow _ _ _ _ _ _ (intsV []) := ho26
    have nb27 : Nb b2 (.slice (some ⟨b17, 0, none⟩) 0 0) := nb_new (by have := ne24; omega)
    refine loopK (fun am0 aa0 wl0 => ∃ (k : Nat) (A0_6 : Option Addr) (n0_6 : Nat) (c0_6 : Nat) (u0_8 u0_18 u0_19 u0_20 u0_21 u0_22 u0_23 u0_24 u0_25 u0_26 u0_27 u0_28 u0_29 u0_30 : Value), aa0 = ⟨[.agg #[.int .i64 m, .slice A n c], .int .i64 v, .pointer (some ⟨b2, 0, none⟩), undef, .slice none 0 0, .bool false, .slice A0_6 n0_6 c0_6, undef, u0_8, .agg #[.int .i64 m, .slice A n c], .int .i64 v, .bool true, .bool false, .slice (some ⟨b17, 0, none⟩) 0 0, .pointer (some ⟨b2, 1, none⟩), .slice A n c, .int .i64 ((n : Nat) : Int), .int .i64 ((k : Nat) : Int), u0_18, u0_19, u0_20, u0_21, u0_22, u0_23, u0_24, u0_25, u0_26, u0_27, u0_28, u0_29, u0_30, undef].toArray, []⟩ ∧ (am0 = n - k) ∧ (k ≤ n) ∧ (n0_6 ≤ k) ∧ (wl0.heap[b2]? = some (.cells #[.int .i64 m, .slice A n c] 31 (0, 0))) ∧ (wl0.ownsRow w.heap.size 3 1 (.slice A0_6 n0_6 c0_6) n0_6 (intsV (atL (ps.take k) v))) ∧ (Nb b2 (.slice A0_6 n0_6 c0_6)) ∧ (Below w.heap.size w wl0)) (n - 0) ?_ ?_
    · exact ⟨0, (some ⟨b17, 0, none⟩), 0, 0, _, _, _, _, _, _, _, _, _, _, _, _, _, _, rfl, rfl, (Nat.zero_le _), (Nat.zero_le _), x6, ho26, nb27, c25⟩
    rintro am0 aa0 wl0 K7 h7 ⟨k, A0_6, n0_6, c0_6, u0_8, u0_18, u0_19, u0_20, u0_21, u0_22, u0_23, u0_24, u0_25, u0_26, u0_27, u0_28, u0_29, u0_30, rfl, rfl, hk, hb6, x6, ho0_6, nb0_6_b2, c28⟩
    refine wp_seq_k (fun K8 h8 => ?_)
    refine region_quiet [(0, false)] rfl ?_
    by_cases q29 : (((k : Nat) : Int) : Int) < (((n : Nat) : Int) : Int)
    · refine sq (v := .bool true) rfl (r_lss rfl rfl rfl (decide_eq_true q29)) rfl rfl rfl ?_
      refine sch_end ?_
      simp only [List.set_cons_zero, List.set_cons_succ]
      refine h8 _ _ ?_
      refine wp_seq_k (fun K9 h9 => ?_)
      refine wp_cond_true rfl ?_
      refine wp_skip ?_
      refine h9 _ _ ?_
      refine wp_seq_k (fun K10 h10 => ?_)
      refine wp_block ?_
      refine wp_seq_k (fun K11 h11 => ?_)
      refine region_plain (row := none) [(0, false), (1, false), (2, true), (3, true)] rfl ?_
      have s30 := SG.self wl0 none
      obtain ⟨x31, hx32⟩ := get_of (zs := ps) (k := k) (by have := hl; omega)
      obtain ⟨b33, o34, hA35, hb36, hc37, hc38, hc39, hc40⟩ := Rd.elPipe ha hx32
      refine sq (v := .pointer (some ⟨b33, o34 + k * 4, none⟩)) rfl (r_idx (k := k) rfl rfl hA35 rfl (by kernel_rfl) (by have := hl; omega)) rfl rfl rfl ?_
      refine sq (v := .agg #[.int .i64 x31.id, .int .i64 x31.fr, .int .i64 x31.to, .int .i64 x31.sz]) rfl (r_load4 rfl rfl (by kernel_rfl) (by kernel_rfl) (sgS (later c28 hc37) (by simp)) (sgS (later c28 hc38) (by simp)) (sgS (later c28 hc39) (by simp)) (sgS (later c28 hc40) (by simp))) rfl rfl rfl ?_
      refine sn (fun b => .pointer (some ⟨b, 0, none⟩)) #[.int .i64 0, .int .i64 0, .int .i64 0, .int .i64 0] 51 s30 rfl rfl rfl (fun _ => by kernel_rfl) (fun b41 w42 hb43 k44 x45 s46 => ?_)
      have lo47 : w.heap.size ≤ b41 := by have := ((SG.belowR c28 s30 (fun kq e => by cases e))).size; omega
      have ne48 : b2 ≠ b41 := by have := blk_lt x6; have := World.grownBy.size s30; omega
      have nb49 : Nb b41 (.slice A0_6 n0_6 c0_6) := nb_hi ho0_6 (Nat.le_of_eq hb43)
      have ho50 := own_kept ho0_6 k44
      refine ss (j := 0) (news := [.int .i64 x31.id, .int .i64 x31.fr, .int .i64 x31.to, .int .i64 x31.sz]) (cs' := #[.int .i64 x31.id, .int .i64 x31.fr, .int .i64 x31.to, .int .i64 x31.sz]) s46 rfl rfl rfl rfl rfl rfl x45 rfl (by kernel_rfl) (by simp) rfl rfl (.inr (by have := World.grownBy.size s30; have := hb43; omega)) (fun w51 g52 x53 s54 => ?_)
      have ho55 := own_grown ho50 g52 (fun j e1 e2 => by cases e2; exact nb49 e1.symm)
      refine sch_end ?_
      simp only [List.set_cons_zero, List.set_cons_succ]
      have x6 := SG.blk s54 x6 (by simp)
      have c56 := (SG.belowR c28 s54 (fun kq e => by cases e))
      refine h11 _ _ ?_
      refine wp_seq_k (fun K12 h12 => ?_)
      refine region_plain (row := none) [(0, false), (1, false), (2, true), (3, false)] rfl ?_
      have s57 := SG.self w51 none
      refine sq (v := .agg #[.int .i64 x31.id, .int .i64 x31.fr, .int .i64 x31.to, .int .i64 x31.sz]) rfl (r_load4 rfl rfl (by kernel_rfl) (by kernel_rfl) (sgS (blk_cell (j := 0) x53 rfl) (by simp)) (sgS (blk_cell (j := 1) x53 rfl) (by simp)) (sgS (blk_cell (j := 2) x53 rfl) (by simp)) (sgS (blk_cell (j := 3) x53 rfl) (by simp))) rfl rfl rfl ?_
      refine sq (v := .int .i64 v) rfl (r_move rfl rfl) rfl rfl rfl ?_
      refine sc (vs := [.agg #[.int .i64 x31.id, .int .i64 x31.fr, .int .i64 x31.to, .int .i64 x31.sz], .int .i64 v]) rfl rfl rfl (by kernel_rfl) rfl rfl (other_any x31 v _) ?_
      rintro e w59 ⟨rfl, b58⟩
      have s60 := SG.of_below s57 b58
      refine ⟨_, rfl, s60, ?_⟩
      have ho61 := own_kept ho55 b58
      by_cases q62 : (otherOf x31 v : Int) > (0 : Int)
      · refine sq (v := .bool true) rfl (r_gtr rfl rfl rfl (decide_eq_true q62)) rfl rfl rfl ?_
        refine sch_end ?_
        simp only [List.set_cons_zero, List.set_cons_succ]
        have x6 := SG.blk s60 x6 (by simp)
        have x53 := SG.blk s60 x53 (by simp)
        have c63 := (SG.belowR c56 s60 (fun kq e => by cases e))
        refine h12 _ _ ?_
        refine wp_cond_true rfl ?_
        refine region_plain (row := (Value.ownBlock (.slice A0_6 n0_6 c0_6))) [(0, false), (1, false), (2, false), (3, true), (4, true), (5, false)] rfl ?_
        have s64 := SG.self w59 (Value.ownBlock (.slice A0_6 n0_6 c0_6))
        refine sq (v := .slice A0_6 n0_6 c0_6) rfl (r_move rfl rfl) rfl rfl rfl ?_
        refine sq (v := .pointer (some ⟨b41, 0, none⟩)) rfl (r_field0 rfl rfl (by kernel_rfl)) rfl rfl rfl ?_
        refine sq (v := .int .i64 x31.id) rfl (r_load rfl rfl (by kernel_rfl) (sgS (blk_cell (j := 0) x53 rfl) nb49)) rfl rfl rfl ?_
        refine sn (fun b => .slice (some ⟨b, 0, none⟩) 1 1) #[.int .i64 x31.id] 3 s64 rfl rfl rfl (fun _ => by kernel_rfl) (fun b65 w66 hb67 k68 x69 s70 => ?_)
        have lo71 : w.heap.size ≤ b65 := by have := ((SG.belowR c63 s64 (fun kq e => (World.ownsRow.lt ho61 kq e).1))).size; omega
        have ne72 : b2 ≠ b65 := by have := blk_lt x6; have := World.grownBy.size s64; omega
        have ne73 : b41 ≠ b65 := by have := blk_lt x53; have := World.grownBy.size s64; omega
        have nb74 : Nb b65 (.slice A0_6 n0_6 c0_6) := nb_hi ho61 (Nat.le_of_eq hb67)
        have ho75 := own_kept ho61 k68
        refine sap (e := 3) (size := 1) (base := w.heap.size) (m := 1) s70 rfl rfl rfl rfl rfl rfl (by kernel_rfl) ho75 x69 rfl rfl (by omega) (by omega) (by have := ((SG.belowR c63 s70 (fun kq e => (World.ownsRow.lt ho61 kq e).1))).size; omega) (.inl rfl) (fun g76 cap77 w78 ho79 hg80 hat81 hlt82 s83 => ?_)
        have nb84 : Nb b2 (.slice (some ⟨g76, 0, none⟩) (n0_6 + 1) cap77) := nb_app nb0_6_b2 (Nat.lt_of_lt_of_le (blk_lt x6) (World.grownBy.size s70)) hat81
        have nb85 : Nb b41 (.slice (some ⟨g76, 0, none⟩) (n0_6 + 1) cap77) := nb_app nb49 (Nat.lt_of_lt_of_le (blk_lt x53) (World.grownBy.size s70)) hat81
        have nb86 : Nb b65 (.slice (some ⟨g76, 0, none⟩) (n0_6 + 1) cap77) := nb_app nb74 (blk_lt x69) hat81
        have x69 := (hg80.block _ (blk_lt x69) nb74).trans x69
        have ho79 := own_snoc ho79
        refine sq (v := .slice (some ⟨g76, 0, none⟩) (n0_6 + 1) cap77) rfl (r_assign rfl rfl) rfl rfl rfl ?_
        simp only [List.set_cons_zero, List.set_cons_succ]
        refine sch_end ?_
        have x6 := SG.blk s83 x6 nb0_6_b2
        have x53 := SG.blk s83 x53 nb49
        have c87 := (SG.belowR c63 s83 (fun kq e => (World.ownsRow.lt ho61 kq e).1))
        refine h10 _ _ ?_
        refine region_quiet [(0, false), (1, false)] rfl ?_
        refine sq (v := .int .i64 ((k + 1 : Nat) : Int)) rfl (r_add (z := ((k + 1 : Nat) : Int)) rfl rfl rfl (by omega) (by omega)) rfl rfl rfl ?_
        refine sq (v := .int .i64 ((k + 1 : Nat) : Int)) rfl (r_move rfl rfl) rfl rfl rfl ?_
        refine sch_end ?_
        simp only [List.set_cons_zero, List.set_cons_succ]
        exact h7 _ _ _ (by omega : (n - (k + 1)) < _) ⟨k + 1, (some ⟨g76, 0, none⟩), (n0_6 + 1), cap77, _, _, _, _, _, _, _, _, _, _, _, _, _, _, rfl, rfl, (by omega), (by omega), x6, (by rw [atL_yes hx32 (by have h0 := hg.at hx32; have h1 := (other_pos (u := v) h0.2.1.1 h0.2.2.1.1); have h2 := q62; first | exact h1.1 h2 | exact fun h3 => h2 (h1.2 h3))]; exact ho79), nb84, c87⟩
      · refine sq (v := .bool false) rfl (r_gtr rfl rfl rfl (decide_eq_false q62)) rfl rfl rfl ?_
        refine sch_end ?_
        simp only [List.set_cons_zero, List.set_cons_succ]
        have x6 := SG.blk s60 x6 (by simp)
        have x53 := SG.blk s60 x53 (by simp)
        have c88 := (SG.belowR c56 s60 (fun kq e => by cases e))
        refine h12 _ _ ?_
        refine wp_cond_false rfl ?_
        refine wp_skip ?_
        refine h10 _ _ ?_
        refine region_quiet [(0, false), (1, false)] rfl ?_
        refine sq (v := .int .i64 ((k + 1 : Nat) : Int)) rfl (r_add (z := ((k + 1 : Nat) : Int)) rfl rfl rfl (by omega) (by omega)) rfl rfl rfl ?_
        refine sq (v := .int .i64 ((k + 1 : Nat) : Int)) rfl (r_move rfl rfl) rfl rfl rfl ?_
        refine sch_end ?_
        simp only [List.set_cons_zero, List.set_cons_succ]
        exact h7 _ _ _ (by omega : (n - (k + 1)) < _) ⟨k + 1, A0_6, n0_6, c0_6, _, _, _, _, _, _, _, _, _, _, _, _, _, _, rfl, rfl, (by omega), (by omega), x6, (by rw [atL_no hx32 (by have h0 := hg.at hx32; have h1 := (other_pos (u := v) h0.2.1.1 h0.2.2.1.1); have h2 := q62; first | exact h1.1 h2 | exact fun h3 => h2 (h1.2 h3))]; exact ho61), nb0_6_b2, c88⟩
    · refine sq (v := .bool false) rfl (r_lss rfl rfl rfl (decide_eq_false q29)) rfl rfl rfl ?_
      refine sch_end ?_
      simp only [List.set_cons_zero, List.set_cons_succ]
      refine h8 _ _ ?_
      refine wp_seq_k (fun K13 h13 => ?_)
      refine wp_cond_false rfl ?_
      refine wp_exit ?_
      refine h5 _ _ ?_
      refine wp_seq_k (fun K14 h14 => ?_)
      refine region_quiet [(0, false), (1, false), (2, false)] rfl ?_
      refine sq (v := .slice A0_6 n0_6 c0_6) rfl (r_move rfl rfl) rfl rfl rfl ?_
      refine sq (v := .slice A0_6 n0_6 c0_6) rfl (r_assign rfl rfl) rfl rfl rfl ?_
      refine sq (v := .bool true) rfl (r_assign rfl rfl) rfl rfl rfl ?_
      refine sch_end ?_
      simp only [List.set_cons_zero, List.set_cons_succ]
      refine h14 _ _ ?_
      refine wp_ret ?_
      try simp only [Exit.then]
      refine ret2 rfl rfl rfl ?_
      exact fin_ints ho0_6 (by unfold PipesAt_v0; rw [if_pos q14]; exact atL_all hl (by omega)) (by unfold PipesAt_v1; exact q14.symm) c28
  · rw [q14]
    refine sq (v := .bool true) rfl (r_not rfl rfl rfl) rfl rfl rfl ?_
    refine sch_end ?_
    simp only [List.set_cons_zero, List.set_cons_succ]
    have x6 := SG.blk s13 x6 (by simp)
    have c89 := (SG.belowR c9 s13 (fun kq e => by cases e))
    refine h3 _ _ ?_
    refine wp_cond_true rfl ?_
    refine wp_seq_k (fun K15 h15 => ?_)
    refine region_quiet [(0, false), (1, false)] rfl ?_
    refine sq (v := .slice none 0 0) rfl (r_assign rfl rfl) rfl rfl rfl ?_
    refine sq (v := .bool false) rfl (r_assign rfl rfl) rfl rfl rfl ?_
    refine sch_end ?_
    simp only [List.set_cons_zero, List.set_cons_succ]
    refine h15 _ _ ?_
    refine wp_ret ?_
    try simp only [Exit.then]
    refine ret2 rfl rfl rfl ?_
    exact fin_ints (zs := []) (World.ownsRow_nil _ _ _ _) (by unfold PipesAt_v0; rw [if_neg (by rw [q14]; simp)]) (by unfold PipesAt_v1; exact q14.symm) c89

end Go.Proofs.Ytdlcldaogcbnlaa
