/- The reference's way to a node. -/
import Derived.Test.YtdlcldaogcbnlaaBridgePipes
import Derived.Test.YtdlcldaogcbnlaaSteps
namespace Go.Proofs.Ytdlcldaogcbnlaa
open Go.RowKit
set_option linter.unusedVariables false

set_option maxRecDepth 100000 in
set_option maxHeartbeats 1000000 in
theorem l2Way_any (m : Int) (A : Option Addr) (n c : Nat) (ps : List Pp) (u v : Int) (w : World) (ha : Rd w 4 A n (pipesV ps)) (hn : n ≤ 1048576) (hp : pipesIn ps m.toNat) (hm : 1 ≤ m ∧ m ≤ 8) (hu0 : 1 ≤ u ∧ u ≤ m) (hv0 : 1 ≤ v ∧ v ≤ m) (h0 : 0 ≤ distOf (joined ps) v u) :
    Calls Try.prog 53 #[.agg #[.int .i64 m, .slice A n c], .int .i64 u, .int .i64 v] w fun e w' => ∃ A' n' c', e = .returned (.slice A' n' c') ∧ w'.ownsRow w.heap.size 3 1 (.slice A' n' c') n' (intsV (wayL (distOf (joined ps) v) ps (distOf (joined ps) v u).toNat u)) ∧ Below w.heap.size w w' := by
  have hl := rd_pipes_len ha
  have hv : 1 ≤ v ∧ v ≤ (m.toNat : Int) := by omega
  have hdu := dist_lt (joined_symm ps) (joined_in hp) hv u
  go_enter Try.func53, Try.ntmps53
  refine wp_seq_k (fun K1 h1 => ?_)
  refine region_plain (row := none) [(0, true), (1, false)] rfl ?_
  have s1 := SG.self w none
  refine sn (fun b => .pointer (some ⟨b, 0, none⟩)) #[.int .i64 m, .slice A n c] 31 s1 rfl rfl rfl (fun _ => by kernel_rfl) (fun b2 w3 hb4 k5 x6 s7 => ?_)
  have lo8 : w.heap.size ≤ b2 := by have := ((SG.belowR (Below.refl _ _) s1 (fun kq e => by cases e))).size; omega
  refine sq (v := .slice none 0 0) rfl (r_assign rfl rfl) rfl rfl rfl ?_
  refine sch_end ?_
  simp only [List.set_cons_zero, List.set_cons_succ]
  have c9 := (SG.belowR (Below.refl _ _) s7 (fun kq e => by cases e))
  refine h1 _ _ ?_
  refine wp_seq_k (fun K2 h2 => ?_)
  refine region_plain (row := none) [(0, false), (1, false), (2, true), (3, false)] rfl ?_
  have s10 := SG.self w3 none
  refine sq (v := .agg #[.int .i64 m, .slice A n c]) rfl (r_load2 rfl rfl (by kernel_rfl) (by kernel_rfl) (sgS (blk_cell (j := 0) x6 rfl) (by simp)) (sgS (blk_cell (j := 1) x6 rfl) (by simp))) rfl rfl rfl ?_
  refine sq (v := .int .i64 v) rfl (r_move rfl rfl) rfl rfl rfl ?_
  have z16 := ((SG.belowR c9 s10 (fun kq e => by cases e))).size
  refine sc (vs := [.agg #[.int .i64 m, .slice A n c], .int .i64 v]) rfl rfl rfl (by kernel_rfl) rfl rfl (l2Steps_any m A n c ps v _ (Rd.kept ha (SG.belowR c9 s10 (fun kq e => by cases e))) (by omega) hp (by omega) (by omega)) ?_
  rintro e w19 ⟨A11, n12, c13, rfl, ho14, b18⟩
  have s20 := SG.of_below s10 b18
  refine ⟨_, rfl, s20, ?_⟩
  have ho15 := own_base (base' := w.heap.size) ho14 z16
  have hlr17 := rd_ints_len (own_rd ho15)
  rw [distList_len] at hlr17
  have nb21 : Nb b2 (.slice A11 n12 c13) := nb_lo ho14 (Nat.lt_of_lt_of_le (blk_lt x6) (World.grownBy.size s10))
  obtain ⟨g22, rfl, _, _⟩ := own_addr ho15 (by omega)
  refine sq (v := .slice (some ⟨g22, 0, none⟩) n12 c13) rfl (r_assign rfl rfl) rfl rfl rfl ?_
  refine sch_end ?_
  simp only [List.set_cons_zero, List.set_cons_succ]
  have x6 := SG.blk s20 x6 (by simp)
  have c23 := (SG.belowR c9 s20 (fun kq e => by cases e))
  refine h2 _ _ ?_
  refine wp_seq_k (fun K3 h3 => ?_)
  refine region_plain (row := none) [(0, true), (1, false)] rfl ?_
  have s24 := SG.self w19 none
  refine sn (fun b => .slice (some ⟨b, 0, none⟩) 0 0) #[] 3 s24 rfl rfl rfl (fun _ => by kernel_rfl) (fun b25 w26 hb27 k28 x29 s30 => ?_)
  have lo31 : w.heap.size ≤ b25 := by have := ((SG.belowR c23 s24 (fun kq e => by cases e))).size; omega
  have ne32 : b2 ≠ b25 := by have := blk_lt x6; have := World.grownBy.size s24; omega
  have nb33 : Nb b25 (.slice (some ⟨g22, 0, none⟩) n12 c13) := nb_hi ho15 (Nat.le_of_eq hb27)
  have ho34 := own_kept ho15 k28
  refine sq (v := .slice (some ⟨b25, 0, none⟩) 0 0) rfl (r_assign rfl rfl) rfl rfl rfl ?_
  refine sch_end ?_
  simp only [List.set_cons_zero, List.set_cons_succ]
  have x6 := SG.blk s30 x6 (by simp)
  have c35 := (SG.belowR c23 s30 (fun kq e => by cases e))
  refine h3 _ _ ?_
  refine wp_seq_k (fun K4 h4 => ?_)
  refine wp_block ?_
  have ho36 := own_empty (base := w.heap.size) (size := 1) x29 lo31
  replace ho36 : World.ownsRow _ _ _ _ _ _ (intsV []) := ho36
  have nr37 : NbR (.slice (some ⟨b25, 0, none⟩) 0 0) (.slice (some ⟨g22, 0, none⟩) n12 c13) := nbr_new nb33
  have nb38 : Nb b2 (.slice (some ⟨b25, 0, none⟩) 0 0) := nb_new (by have := ne32; omega)
  refine loopK (fun am0 aa0 wl0 => ∃ (z : Int) (way : List Int) (A0_8 : Option Addr) (n0_8 : Nat) (c0_8 : Nat) (u0_9 u0_10 u0_11 u0_16 u0_17 u0_18 u0_19 u0_20 u0_21 u0_22 u0_23 u0_24 u0_25 u0_26 u0_27 u0_28 u0_29 u0_30 u0_31 u0_32 u0_33 u0_34 u0_35 u0_36 u0_37 u0_38 u0_39 u0_40 u0_41 u0_42 u0_43 u0_44 u0_45 u0_46 u0_47 u0_48 u0_49 u0_50 u0_51 u0_52 u0_53 u0_54 u0_55 u0_56 u0_57 u0_58 u0_59 u0_60 u0_61 u0_62 : Value), aa0 = ⟨[.agg #[.int .i64 m, .slice A n c], .int .i64 z, .int .i64 v, .pointer (some ⟨b2, 0, none⟩), undef, undef, .slice none 0 0, .slice (some ⟨g22, 0, none⟩) n12 c13, .slice A0_8 n0_8 c0_8, u0_9, u0_10, u0_11, .agg #[.int .i64 m, .slice A n c], .int .i64 v, .slice (some ⟨g22, 0, none⟩) n12 c13, .slice (some ⟨b25, 0, none⟩) 0 0, u0_16, u0_17, u0_18, u0_19, u0_20, u0_21, u0_22, u0_23, u0_24, u0_25, u0_26, u0_27, u0_28, u0_29, u0_30, u0_31, u0_32, u0_33, u0_34, u0_35, u0_36, u0_37, u0_38, u0_39, u0_40, u0_41, u0_42, u0_43, u0_44, u0_45, u0_46, u0_47, u0_48, u0_49, u0_50, u0_51, u0_52, u0_53, u0_54, u0_55, u0_56, u0_57, u0_58, u0_59, u0_60, u0_61, u0_62, undef].toArray, []⟩ ∧ (am0 = (distOf (joined ps) v z).toNat) ∧ (1 ≤ z ∧ z ≤ m) ∧ (0 ≤ distOf (joined ps) v z) ∧ (way ++ wayL (distOf (joined ps) v) ps (distOf (joined ps) v z).toNat z = wayL (distOf (joined ps) v) ps (distOf (joined ps) v u).toNat u) ∧ ((n0_8 : Int) + distOf (joined ps) v z = distOf (joined ps) v u) ∧ (wl0.heap[b2]? = some (.cells #[.int .i64 m, .slice A n c] 31 (0, 0))) ∧ (wl0.ownsRow w.heap.size 3 1 (.slice (some ⟨g22, 0, none⟩) n12 c13) n12 (intsV (distList (joined ps) m.toNat v))) ∧ (wl0.ownsRow w.heap.size 3 1 (.slice A0_8 n0_8 c0_8) n0_8 (intsV way)) ∧ (Nb b2 (.slice A0_8 n0_8 c0_8)) ∧ (NbR (.slice A0_8 n0_8 c0_8) (.slice (some ⟨g22, 0, none⟩) n12 c13)) ∧ (Below w.heap.size w wl0)) ((distOf (joined ps) v u).toNat) ?_ ?_
  · exact ⟨u, [], (some ⟨b25, 0, none⟩), 0, 0, _, _, _, _, _, _, _, _, _, _, _, _, _, _, _, _, _, _, _, _, _, _, _, _, _, _, _, _, _, _, _, _, _, _, _, _, _, _, _, _, _, _, _, _, _, _, _, _, _, _, rfl, rfl, (by omega), (by omega), rfl, (by omega), x6, ho34, ho36, nb38, nr37, c35⟩
  rintro am0 aa0 wl0 K5 h5 ⟨z, way, A0_8, n0_8, c0_8, u0_9, u0_10, u0_11, u0_16, u0_17, u0_18, u0_19, u0_20, u0_21, u0_22, u0_23, u0_24, u0_25, u0_26, u0_27, u0_28, u0_29, u0_30, u0_31, u0_32, u0_33, u0_34, u0_35, u0_36, u0_37, u0_38, u0_39, u0_40, u0_41, u0_42, u0_43, u0_44, u0_45, u0_46, u0_47, u0_48, u0_49, u0_50, u0_51, u0_52, u0_53, u0_54, u0_55, u0_56, u0_57, u0_58, u0_59, u0_60, u0_61, u0_62, rfl, rfl, hz, hd, hw, hct, x6, ho0_7, ho0_8, nb0_8_b2, nr0_1_0, c39⟩
  have hdz := dist_lt (joined_symm ps) (joined_in hp) hv z
  refine wp_seq_k (fun K6 h6 => ?_)
  refine wp_seq_k (fun K7 h7 => ?_)
  refine region_quiet [(0, false), (1, false), (2, false)] rfl ?_
  refine sq (v := .int .i64 z) rfl (r_move rfl rfl) rfl rfl rfl ?_
  refine sq (v := .int .i64 v) rfl (r_move rfl rfl) rfl rfl rfl ?_
  by_cases q40 : (z : Int) ≠ (v : Int)
  · have hz0 : 0 < distOf (joined ps) v z := by
      by_cases h9 : distOf (joined ps) v z = 0
      · exact absurd (dist_zero h9) q40
      · omega
    refine sq (v := .bool true) rfl (r_neq rfl rfl rfl (decide_eq_true q40)) rfl rfl rfl ?_
    refine sch_end ?_
    simp only [List.set_cons_zero, List.set_cons_succ]
    refine h7 _ _ ?_
    refine wp_cond_true rfl ?_
    refine wp_skip ?_
    refine h6 _ _ ?_
    refine wp_block ?_
    refine wp_seq_k (fun K8 h8 => ?_)
    refine region_quiet [(0, false)] rfl ?_
    refine sq (v := .int .i64 0) rfl (r_assign rfl rfl) rfl rfl rfl ?_
    refine sch_end ?_
    simp only [List.set_cons_zero, List.set_cons_succ]
    refine h8 _ _ ?_
    refine wp_block ?_
    refine loopK (fun am1 aa1 wl1 => ∃ (i : Nat) (u1_10 u1_11 u1_19 u1_20 u1_21 u1_22 u1_23 u1_24 u1_25 u1_26 u1_27 u1_28 u1_29 u1_30 u1_31 u1_32 u1_33 u1_34 u1_35 u1_36 u1_37 u1_38 u1_39 u1_40 u1_41 u1_42 u1_43 u1_44 u1_45 u1_46 u1_47 u1_48 u1_49 u1_50 u1_51 u1_52 u1_53 u1_54 u1_55 u1_56 u1_57 u1_58 u1_59 u1_60 u1_61 u1_62 : Value), aa1 = ⟨[.agg #[.int .i64 m, .slice A n c], .int .i64 z, .int .i64 v, .pointer (some ⟨b2, 0, none⟩), undef, undef, .slice none 0 0, .slice (some ⟨g22, 0, none⟩) n12 c13, .slice A0_8 n0_8 c0_8, .int .i64 ((i : Nat) : Int), u1_10, u1_11, .agg #[.int .i64 m, .slice A n c], .int .i64 v, .slice (some ⟨g22, 0, none⟩) n12 c13, .slice (some ⟨b25, 0, none⟩) 0 0, .int .i64 z, .int .i64 v, .bool true, u1_19, u1_20, u1_21, u1_22, u1_23, u1_24, u1_25, u1_26, u1_27, u1_28, u1_29, u1_30, u1_31, u1_32, u1_33, u1_34, u1_35, u1_36, u1_37, u1_38, u1_39, u1_40, u1_41, u1_42, u1_43, u1_44, u1_45, u1_46, u1_47, u1_48, u1_49, u1_50, u1_51, u1_52, u1_53, u1_54, u1_55, u1_56, u1_57, u1_58, u1_59, u1_60, u1_61, u1_62, undef].toArray, []⟩ ∧ (am1 = n - i) ∧ (i ≤ n) ∧ (∀ j q, j < i → ps[j]? = some q → ¬ (0 < otherOf q z ∧ distOf (joined ps) v (otherOf q z) = distOf (joined ps) v z - 1)) ∧ (wl1.heap[b2]? = some (.cells #[.int .i64 m, .slice A n c] 31 (0, 0))) ∧ (wl1.ownsRow w.heap.size 3 1 (.slice (some ⟨g22, 0, none⟩) n12 c13) n12 (intsV (distList (joined ps) m.toNat v))) ∧ (wl1.ownsRow w.heap.size 3 1 (.slice A0_8 n0_8 c0_8) n0_8 (intsV way)) ∧ (Below w.heap.size w wl1)) (n - 0) ?_ ?_
    · exact ⟨0, _, _, _, _, _, _, _, _, _, _, _, _, _, _, _, _, _, _, _, _, _, _, _, _, _, _, _, _, _, _, _, _, _, _, _, _, _, _, _, _, _, _, _, _, _, _, rfl, rfl, (Nat.zero_le _), (fun j q hj => absurd hj (by omega)), x6, ho0_7, ho0_8, c39⟩
    rintro am1 aa1 wl1 K9 h9 ⟨i, u1_10, u1_11, u1_19, u1_20, u1_21, u1_22, u1_23, u1_24, u1_25, u1_26, u1_27, u1_28, u1_29, u1_30, u1_31, u1_32, u1_33, u1_34, u1_35, u1_36, u1_37, u1_38, u1_39, u1_40, u1_41, u1_42, u1_43, u1_44, u1_45, u1_46, u1_47, u1_48, u1_49, u1_50, u1_51, u1_52, u1_53, u1_54, u1_55, u1_56, u1_57, u1_58, u1_59, u1_60, u1_61, u1_62, rfl, rfl, hi, hno, x6, ho1_7, ho1_8, c41⟩
    refine wp_seq_k (fun K10 h10 => ?_)
    refine wp_seq_k (fun K11 h11 => ?_)
    refine region_quiet [(0, false), (1, false), (2, false), (3, false), (4, false)] rfl ?_
    refine sq (v := .int .i64 ((i : Nat) : Int)) rfl (r_move rfl rfl) rfl rfl rfl ?_
    refine sq (v := .pointer (some ⟨b2, 1, none⟩)) rfl (r_field (k := 1) rfl rfl (by kernel_rfl)) rfl rfl rfl ?_
    refine sq (v := .slice A n c) rfl (r_load rfl rfl (by kernel_rfl) (eqS (blk_cell (j := 1) x6 rfl))) rfl rfl rfl ?_
    refine sq (v := .int .i64 ((n : Nat) : Int)) rfl (r_len rfl rfl (by kernel_rfl)) rfl rfl rfl ?_
    have hilt : i < n := by obtain ⟨j, p9, h7, h8, h9⟩ := step_there hp hz0; exact (if hc : i < n then hc else absurd ⟨h8, h9⟩ (hno j p9 (by have := (List.getElem?_eq_some_iff.1 h7).1; omega) h7))
    refine sq (v := .bool true) rfl (r_lss rfl rfl rfl (decide_eq_true (by omega))) rfl rfl rfl ?_
    simp only [List.set_cons_zero, List.set_cons_succ]
    refine sch_end ?_
    refine h11 _ _ ?_
    refine wp_cond_true rfl ?_
    refine wp_skip ?_
    refine h10 _ _ ?_
    refine wp_seq_k (fun K12 h12 => ?_)
    refine wp_block ?_
    refine wp_seq_k (fun K13 h13 => ?_)
    refine region_plain (row := none) [(0, false), (1, false), (2, false), (3, false), (4, false), (5, true), (6, true)] rfl ?_
    have s42 := SG.self wl1 none
    refine sq (v := .pointer (some ⟨b2, 1, none⟩)) rfl (r_field (k := 1) rfl rfl (by kernel_rfl)) rfl rfl rfl ?_
    refine sq (v := .slice A n c) rfl (r_load rfl rfl (by kernel_rfl) (sgS (blk_cell (j := 1) x6 rfl) (by simp))) rfl rfl rfl ?_
    refine sq (v := .int .i64 ((i : Nat) : Int)) rfl (r_move rfl rfl) rfl rfl rfl ?_
    obtain ⟨x43, hx44⟩ := get_of (zs := ps) (k := i) (by have := hl; omega)
    obtain ⟨b45, o46, hA47, hb48, hc49, hc50, hc51, hc52⟩ := Rd.elPipe ha hx44
    refine sq (v := .pointer (some ⟨b45, o46 + i * 4, none⟩)) rfl (r_idx (k := i) rfl rfl hA47 rfl (by kernel_rfl) (by have := hl; omega)) rfl rfl rfl ?_
    refine sq (v := .agg #[.int .i64 x43.id, .int .i64 x43.fr, .int .i64 x43.to, .int .i64 x43.sz]) rfl (r_load4 rfl rfl (by kernel_rfl) (by kernel_rfl) (sgS (later c41 hc49) (by simp)) (sgS (later c41 hc50) (by simp)) (sgS (later c41 hc51) (by simp)) (sgS (later c41 hc52) (by simp))) rfl rfl rfl ?_
    simp only [List.set_cons_zero, List.set_cons_succ]
    refine sn (fun b => .pointer (some ⟨b, 0, none⟩)) #[.int .i64 0, .int .i64 0, .int .i64 0, .int .i64 0] 51 s42 rfl rfl rfl (fun _ => by kernel_rfl) (fun b53 w54 hb55 k56 x57 s58 => ?_)
    have lo59 : w.heap.size ≤ b53 := by have := ((SG.belowR c41 s42 (fun kq e => by cases e))).size; omega
    have ne60 : b2 ≠ b53 := by have := blk_lt x6; have := World.grownBy.size s42; omega
    have nb61 : Nb b53 (.slice (some ⟨g22, 0, none⟩) n12 c13) := nb_hi ho1_7 (Nat.le_of_eq hb55)
    have nb62 : Nb b53 (.slice A0_8 n0_8 c0_8) := nb_hi ho1_8 (Nat.le_of_eq hb55)
    have ho63 := own_kept ho1_7 k56
    have ho64 := own_kept ho1_8 k56
    refine ss (j := 0) (news := [.int .i64 x43.id, .int .i64 x43.fr, .int .i64 x43.to, .int .i64 x43.sz]) (cs' := #[.int .i64 x43.id, .int .i64 x43.fr, .int .i64 x43.to, .int .i64 x43.sz]) s58 rfl rfl rfl rfl rfl rfl x57 rfl (by kernel_rfl) (by simp) rfl rfl (.inr (by have := World.grownBy.size s42; have := hb55; omega)) (fun w65 g66 x67 s68 => ?_)
    have ho69 := own_grown ho63 g66 (fun j e1 e2 => by cases e2; exact nb61 e1.symm)
    have ho70 := own_grown ho64 g66 (fun j e1 e2 => by cases e2; exact nb62 e1.symm)
    refine sch_end ?_
    simp only [List.set_cons_zero, List.set_cons_succ]
    have x6 := SG.blk s68 x6 (by simp)
    have c71 := (SG.belowR c41 s68 (fun kq e => by cases e))
    refine h13 _ _ ?_
    refine wp_seq_k (fun K14 h14 => ?_)
    refine region_quiet [(0, false)] rfl ?_
    refine sq (v := .int .i64 0) rfl (r_assign rfl rfl) rfl rfl rfl ?_
    refine sch_end ?_
    simp only [List.set_cons_zero, List.set_cons_succ]
    refine h14 _ _ ?_
    refine wp_seq_k (fun K15 h15 => ?_)
    refine wp_seq_k (fun K16 h16 => ?_)
    refine region_quiet [(0, false), (1, false), (2, false), (3, false)] rfl ?_
    refine sq (v := .pointer (some ⟨b53, 1, none⟩)) rfl (r_field (k := 1) rfl rfl (by kernel_rfl)) rfl rfl rfl ?_
    refine sq (v := .int .i64 x43.fr) rfl (r_load rfl rfl (by kernel_rfl) (eqS (blk_cell (j := 1) x67 rfl))) rfl rfl rfl ?_
    refine sq (v := .int .i64 z) rfl (r_move rfl rfl) rfl rfl rfl ?_
    by_cases q72 : (x43.fr : Int) = (z : Int)
    · have ho73 : otherOf x43 z = x43.to := by unfold otherOf; rw [if_pos q72.symm]
      have hin9 := hp x43 (List.mem_of_getElem? hx44)
      refine sq (v := .bool true) rfl (r_eql rfl rfl rfl (decide_eq_true q72)) rfl rfl rfl ?_
      refine sch_end ?_
      simp only [List.set_cons_zero, List.set_cons_succ]
      refine h16 _ _ ?_
      refine wp_cond_true rfl ?_
      refine region_quiet [(0, false), (1, false), (2, false)] rfl ?_
      refine sq (v := .pointer (some ⟨b53, 2, none⟩)) rfl (r_field (k := 2) rfl rfl (by kernel_rfl)) rfl rfl rfl ?_
      refine sq (v := .int .i64 x43.to) rfl (r_load rfl rfl (by kernel_rfl) (eqS (blk_cell (j := 2) x67 rfl))) rfl rfl rfl ?_
      refine sq (v := .int .i64 x43.to) rfl (r_assign rfl rfl) rfl rfl rfl ?_
      refine sch_end ?_
      simp only [List.set_cons_zero, List.set_cons_succ]
      refine h15 _ _ ?_
      refine wp_seq_k (fun K17 h17 => ?_)
      refine region_sch (row := none) (Sch.of [(0, false), (1, false), (2, false), (3, false), (4, false), (5, false), (6, false), (7, false), (8, false), (9, false), (10, false), (11, false), (12, false), (13, false)]) (by kernel_rfl) (by kernel_rfl) (fun _ d _ _ _ h => by cases d <;> exact h) (by kernel_rfl) (fun w74 e75 s76 => ?_)
      have ho77 := own_heap ho69 e75
      have ho78 := own_heap ho70 e75
      refine sq (v := .int .i64 x43.to) rfl (r_move rfl rfl) rfl rfl rfl ?_
      refine sq (v := .bool true) rfl (r_gtr rfl rfl rfl (decide_eq_true (by omega))) rfl rfl rfl ?_
      refine sq (v := .bool true) rfl (r_move rfl rfl) rfl rfl rfl ?_
      refine sq (v := .slice (some ⟨g22, 0, none⟩) n12 c13) rfl (r_move rfl rfl) rfl rfl rfl ?_
      refine sq (v := .int .i64 x43.to) rfl (r_move rfl rfl) rfl rfl rfl ?_
      simp only [List.set_cons_zero, List.set_cons_succ]
      refine sq (v := .pointer (some ⟨g22, (x43.to).toNat, none⟩)) rfl (r_idx0 (k := (x43.to).toNat) rfl rfl (by show Value.int .i64 x43.to = _; rw [Int.toNat_of_nonneg (by omega)]) (by kernel_rfl) (by omega)) rfl rfl rfl ?_
      refine sq (v := .int .i64 (distOf (joined ps) v x43.to)) rfl (r_load rfl rfl (by kernel_rfl) (sgS (own_atI ho69 (dist_get (by omega) (by omega))) (by simp))) rfl rfl rfl ?_
      refine sq (v := .slice (some ⟨g22, 0, none⟩) n12 c13) rfl (r_move rfl rfl) rfl rfl rfl ?_
      refine sq (v := .int .i64 z) rfl (r_move rfl rfl) rfl rfl rfl ?_
      refine sq (v := .pointer (some ⟨g22, (z).toNat, none⟩)) rfl (r_idx0 (k := (z).toNat) rfl rfl (by show Value.int .i64 z = _; rw [Int.toNat_of_nonneg (by omega)]) (by kernel_rfl) (by omega)) rfl rfl rfl ?_
      simp only [List.set_cons_zero, List.set_cons_succ]
      refine sq (v := .int .i64 (distOf (joined ps) v z)) rfl (r_load rfl rfl (by kernel_rfl) (sgS (own_atI ho69 (dist_get (by omega) (by omega))) (by simp))) rfl rfl rfl ?_
      refine sq (v := .int .i64 (distOf (joined ps) v z - 1)) rfl (r_sub (z := distOf (joined ps) v z - 1) rfl rfl rfl (rfl) (by omega)) rfl rfl rfl ?_
      by_cases q79 : (distOf (joined ps) v x43.to : Int) = (distOf (joined ps) v z - 1 : Int)
      · refine sq (v := .bool true) rfl (r_eql rfl rfl rfl (decide_eq_true q79)) rfl rfl rfl ?_
        refine sq (v := .bool true) rfl (r_pick rfl rfl rfl) rfl rfl rfl ?_
        refine sch_end ?_
        simp only [List.set_cons_zero, List.set_cons_succ]
        have x6 := SG.blk s76 x6 (by simp)
        have x67 := SG.blk s76 x67 (by simp)
        have c80 := (SG.belowR c71 s76 (fun kq e => by cases e))
        refine h17 _ _ ?_
        refine wp_cond_true rfl ?_
        refine wp_seq_k (fun K18 h18 => ?_)
        refine region_plain (row := (Value.ownBlock (.slice A0_8 n0_8 c0_8))) [(0, false), (1, false), (2, false), (3, true), (4, true), (5, false)] rfl ?_
        have s81 := SG.self w74 (Value.ownBlock (.slice A0_8 n0_8 c0_8))
        refine sq (v := .slice A0_8 n0_8 c0_8) rfl (r_move rfl rfl) rfl rfl rfl ?_
        refine sq (v := .pointer (some ⟨b53, 0, none⟩)) rfl (r_field0 rfl rfl (by kernel_rfl)) rfl rfl rfl ?_
        refine sq (v := .int .i64 x43.id) rfl (r_load rfl rfl (by kernel_rfl) (sgS (blk_cell (j := 0) x67 rfl) nb62)) rfl rfl rfl ?_
        refine sn (fun b => .slice (some ⟨b, 0, none⟩) 1 1) #[.int .i64 x43.id] 3 s81 rfl rfl rfl (fun _ => by kernel_rfl) (fun b82 w83 hb84 k85 x86 s87 => ?_)
        have lo88 : w.heap.size ≤ b82 := by have := ((SG.belowR c80 s81 (fun kq e => (World.ownsRow.lt ho78 kq e).1))).size; omega
        have ne89 : b2 ≠ b82 := by have := blk_lt x6; have := World.grownBy.size s81; omega
        have ne90 : b53 ≠ b82 := by have := blk_lt x67; have := World.grownBy.size s81; omega
        have nb91 : Nb b82 (.slice (some ⟨g22, 0, none⟩) n12 c13) := nb_hi ho77 (Nat.le_of_eq hb84)
        have nb92 : Nb b82 (.slice A0_8 n0_8 c0_8) := nb_hi ho78 (Nat.le_of_eq hb84)
        have ho93 := own_kept ho77 k85
        have ho94 := own_kept ho78 k85
        refine sap (e := 3) (size := 1) (base := w.heap.size) (m := 1) s87 rfl rfl rfl rfl rfl rfl (by kernel_rfl) ho94 x86 rfl rfl (by omega) (by omega) (by have := ((SG.belowR c80 s87 (fun kq e => (World.ownsRow.lt ho78 kq e).1))).size; omega) (.inl rfl) (fun g95 cap96 w97 ho98 hg99 hat100 hlt101 s102 => ?_)
        have nb103 : Nb b2 (.slice (some ⟨g95, 0, none⟩) (n0_8 + 1) cap96) := nb_app nb0_8_b2 (Nat.lt_of_lt_of_le (blk_lt x6) (World.grownBy.size s87)) hat100
        have nb104 : Nb b53 (.slice (some ⟨g95, 0, none⟩) (n0_8 + 1) cap96) := nb_app nb62 (Nat.lt_of_lt_of_le (blk_lt x67) (World.grownBy.size s87)) hat100
        have nb105 : Nb b82 (.slice (some ⟨g95, 0, none⟩) (n0_8 + 1) cap96) := nb_app nb92 (blk_lt x86) hat100
        have x86 := (hg99.block _ (blk_lt x86) nb92).trans x86
        have ho98 := own_snoc ho98
        have nr106 : NbR (.slice (some ⟨g95, 0, none⟩) (n0_8 + 1) cap96) (.slice (some ⟨g22, 0, none⟩) n12 c13) := nbr_app nr0_1_0 (fun j h => (World.ownsRow.lt ho93 j h).2) (hat3 (v := .slice A0_8 n0_8 c0_8) hat100)
        have ho107 := own_grown ho93 hg99 (NbR.symm nr0_1_0)
        refine sq (v := .slice (some ⟨g95, 0, none⟩) (n0_8 + 1) cap96) rfl (r_assign rfl rfl) rfl rfl rfl ?_
        simp only [List.set_cons_zero, List.set_cons_succ]
        refine sch_end ?_
        have x6 := SG.blk s102 x6 nb0_8_b2
        have x67 := SG.blk s102 x67 nb62
        have c108 := (SG.belowR c80 s102 (fun kq e => (World.ownsRow.lt ho78 kq e).1))
        refine h18 _ _ ?_
        refine wp_seq_k (fun K19 h19 => ?_)
        refine region_quiet [(0, false), (1, false)] rfl ?_
        refine sq (v := .int .i64 x43.to) rfl (r_move rfl rfl) rfl rfl rfl ?_
        refine sq (v := .int .i64 x43.to) rfl (r_assign rfl rfl) rfl rfl rfl ?_
        refine sch_end ?_
        simp only [List.set_cons_zero, List.set_cons_succ]
        refine h19 _ _ ?_
        refine wp_exit ?_
        have e8 : wayL (distOf (joined ps) v) ps (distOf (joined ps) v z).toNat z = x43.id :: wayL (distOf (joined ps) v) ps (distOf (joined ps) v x43.to).toNat x43.to := by
          rw [show (distOf (joined ps) v z).toNat = (distOf (joined ps) v x43.to).toNat + 1 by omega]
          exact wayL_succ (by have h9 := stepOf_at hx44 (by rw [ho73]; omega) (by rw [ho73]; exact q79) hno; rw [ho73] at h9; exact h9)
        exact h5 _ _ _ (by omega : ((distOf (joined ps) v x43.to).toNat) < _) ⟨x43.to, way ++ [x43.id], (some ⟨g95, 0, none⟩), (n0_8 + 1), cap96, _, _, _, _, _, _, _, _, _, _, _, _, _, _, _, _, _, _, _, _, _, _, _, _, _, _, _, _, _, _, _, _, _, _, _, _, _, _, _, _, _, _, _, _, _, _, _, _, _, _, rfl, rfl, (by omega), (by omega), (by rw [← hw, e8, List.append_assoc]; rfl), (by omega), x6, ho107, ho98, nb103, nr106, c108⟩
      · refine sq (v := .bool false) rfl (r_eql rfl rfl rfl (decide_eq_false q79)) rfl rfl rfl ?_
        refine sq (v := .bool false) rfl (r_pick rfl rfl rfl) rfl rfl rfl ?_
        refine sch_end ?_
        simp only [List.set_cons_zero, List.set_cons_succ]
        have x6 := SG.blk s76 x6 (by simp)
        have x67 := SG.blk s76 x67 (by simp)
        have c109 := (SG.belowR c71 s76 (fun kq e => by cases e))
        refine h17 _ _ ?_
        refine wp_cond_false rfl ?_
        refine wp_skip ?_
        refine h12 _ _ ?_
        refine region_quiet [(0, false), (1, false), (2, false)] rfl ?_
        refine sq (v := .int .i64 ((i : Nat) : Int)) rfl (r_move rfl rfl) rfl rfl rfl ?_
        refine sq (v := .int .i64 ((i + 1 : Nat) : Int)) rfl (r_add (z := ((i + 1 : Nat) : Int)) rfl rfl rfl (by omega) (by omega)) rfl rfl rfl ?_
        refine sq (v := .int .i64 ((i + 1 : Nat) : Int)) rfl (r_assign rfl rfl) rfl rfl rfl ?_
        refine sch_end ?_
        simp only [List.set_cons_zero, List.set_cons_succ]
        exact h9 _ _ _ (by omega : (n - (i + 1)) < _) ⟨i + 1, _, _, _, _, _, _, _, _, _, _, _, _, _, _, _, _, _, _, _, _, _, _, _, _, _, _, _, _, _, _, _, _, _, _, _, _, _, _, _, _, _, _, _, _, _, _, rfl, rfl, (by omega), (upto_succ (Q := fun q => ¬ (0 < otherOf q z ∧ distOf (joined ps) v (otherOf q z) = distOf (joined ps) v z - 1)) hno hx44 (by rw [ho73]; omega)), x6, ho77, ho78, c109⟩
    · refine sq (v := .bool false) rfl (r_eql rfl rfl rfl (decide_eq_false q72)) rfl rfl rfl ?_
      refine sch_end ?_
      simp only [List.set_cons_zero, List.set_cons_succ]
      refine h16 _ _ ?_
      refine wp_cond_false rfl ?_
      refine wp_seq_k (fun K20 h20 => ?_)
      refine region_quiet [(0, false), (1, false), (2, false), (3, false)] rfl ?_
      refine sq (v := .pointer (some ⟨b53, 2, none⟩)) rfl (r_field (k := 2) rfl rfl (by kernel_rfl)) rfl rfl rfl ?_
      refine sq (v := .int .i64 x43.to) rfl (r_load rfl rfl (by kernel_rfl) (eqS (blk_cell (j := 2) x67 rfl))) rfl rfl rfl ?_
      refine sq (v := .int .i64 z) rfl (r_move rfl rfl) rfl rfl rfl ?_
      by_cases q110 : (x43.to : Int) = (z : Int)
      · have ho111 : otherOf x43 z = x43.fr := by unfold otherOf; rw [if_neg (fun e => q72 e.symm), if_pos q110.symm]
        have hin9 := hp x43 (List.mem_of_getElem? hx44)
        refine sq (v := .bool true) rfl (r_eql rfl rfl rfl (decide_eq_true q110)) rfl rfl rfl ?_
        refine sch_end ?_
        simp only [List.set_cons_zero, List.set_cons_succ]
        refine h20 _ _ ?_
        refine wp_cond_true rfl ?_
        refine region_quiet [(0, false), (1, false), (2, false)] rfl ?_
        refine sq (v := .pointer (some ⟨b53, 1, none⟩)) rfl (r_field (k := 1) rfl rfl (by kernel_rfl)) rfl rfl rfl ?_
        refine sq (v := .int .i64 x43.fr) rfl (r_load rfl rfl (by kernel_rfl) (eqS (blk_cell (j := 1) x67 rfl))) rfl rfl rfl ?_
        refine sq (v := .int .i64 x43.fr) rfl (r_assign rfl rfl) rfl rfl rfl ?_
        refine sch_end ?_
        simp only [List.set_cons_zero, List.set_cons_succ]
        refine h15 _ _ ?_
        refine wp_seq_k (fun K21 h21 => ?_)
        refine region_sch (row := none) (Sch.of [(0, false), (1, false), (2, false), (3, false), (4, false), (5, false), (6, false), (7, false), (8, false), (9, false), (10, false), (11, false), (12, false), (13, false)]) (by kernel_rfl) (by kernel_rfl) (fun _ d _ _ _ h => by cases d <;> exact h) (by kernel_rfl) (fun w112 e113 s114 => ?_)
        have ho115 := own_heap ho69 e113
        have ho116 := own_heap ho70 e113
        refine sq (v := .int .i64 x43.fr) rfl (r_move rfl rfl) rfl rfl rfl ?_
        refine sq (v := .bool true) rfl (r_gtr rfl rfl rfl (decide_eq_true (by omega))) rfl rfl rfl ?_
        refine sq (v := .bool true) rfl (r_move rfl rfl) rfl rfl rfl ?_
        refine sq (v := .slice (some ⟨g22, 0, none⟩) n12 c13) rfl (r_move rfl rfl) rfl rfl rfl ?_
        refine sq (v := .int .i64 x43.fr) rfl (r_move rfl rfl) rfl rfl rfl ?_
        simp only [List.set_cons_zero, List.set_cons_succ]
        refine sq (v := .pointer (some ⟨g22, (x43.fr).toNat, none⟩)) rfl (r_idx0 (k := (x43.fr).toNat) rfl rfl (by show Value.int .i64 x43.fr = _; rw [Int.toNat_of_nonneg (by omega)]) (by kernel_rfl) (by omega)) rfl rfl rfl ?_
        refine sq (v := .int .i64 (distOf (joined ps) v x43.fr)) rfl (r_load rfl rfl (by kernel_rfl) (sgS (own_atI ho69 (dist_get (by omega) (by omega))) (by simp))) rfl rfl rfl ?_
        refine sq (v := .slice (some ⟨g22, 0, none⟩) n12 c13) rfl (r_move rfl rfl) rfl rfl rfl ?_
        refine sq (v := .int .i64 z) rfl (r_move rfl rfl) rfl rfl rfl ?_
        refine sq (v := .pointer (some ⟨g22, (z).toNat, none⟩)) rfl (r_idx0 (k := (z).toNat) rfl rfl (by show Value.int .i64 z = _; rw [Int.toNat_of_nonneg (by omega)]) (by kernel_rfl) (by omega)) rfl rfl rfl ?_
        simp only [List.set_cons_zero, List.set_cons_succ]
        refine sq (v := .int .i64 (distOf (joined ps) v z)) rfl (r_load rfl rfl (by kernel_rfl) (sgS (own_atI ho69 (dist_get (by omega) (by omega))) (by simp))) rfl rfl rfl ?_
        refine sq (v := .int .i64 (distOf (joined ps) v z - 1)) rfl (r_sub (z := distOf (joined ps) v z - 1) rfl rfl rfl (rfl) (by omega)) rfl rfl rfl ?_
        by_cases q117 : (distOf (joined ps) v x43.fr : Int) = (distOf (joined ps) v z - 1 : Int)
        · refine sq (v := .bool true) rfl (r_eql rfl rfl rfl (decide_eq_true q117)) rfl rfl rfl ?_
          refine sq (v := .bool true) rfl (r_pick rfl rfl rfl) rfl rfl rfl ?_
          refine sch_end ?_
          simp only [List.set_cons_zero, List.set_cons_succ]
          have x6 := SG.blk s114 x6 (by simp)
          have x67 := SG.blk s114 x67 (by simp)
          have c118 := (SG.belowR c71 s114 (fun kq e => by cases e))
          refine h21 _ _ ?_
          refine wp_cond_true rfl ?_
          refine wp_seq_k (fun K22 h22 => ?_)
          refine region_plain (row := (Value.ownBlock (.slice A0_8 n0_8 c0_8))) [(0, false), (1, false), (2, false), (3, true), (4, true), (5, false)] rfl ?_
          have s119 := SG.self w112 (Value.ownBlock (.slice A0_8 n0_8 c0_8))
          refine sq (v := .slice A0_8 n0_8 c0_8) rfl (r_move rfl rfl) rfl rfl rfl ?_
          refine sq (v := .pointer (some ⟨b53, 0, none⟩)) rfl (r_field0 rfl rfl (by kernel_rfl)) rfl rfl rfl ?_
          refine sq (v := .int .i64 x43.id) rfl (r_load rfl rfl (by kernel_rfl) (sgS (blk_cell (j := 0) x67 rfl) nb62)) rfl rfl rfl ?_
          refine sn (fun b => .slice (some ⟨b, 0, none⟩) 1 1) #[.int .i64 x43.id] 3 s119 rfl rfl rfl (fun _ => by kernel_rfl) (fun b120 w121 hb122 k123 x124 s125 => ?_)
          have lo126 : w.heap.size ≤ b120 := by have := ((SG.belowR c118 s119 (fun kq e => (World.ownsRow.lt ho116 kq e).1))).size; omega
          have ne127 : b2 ≠ b120 := by have := blk_lt x6; have := World.grownBy.size s119; omega
          have ne128 : b53 ≠ b120 := by have := blk_lt x67; have := World.grownBy.size s119; omega
          have nb129 : Nb b120 (.slice (some ⟨g22, 0, none⟩) n12 c13) := nb_hi ho115 (Nat.le_of_eq hb122)
          have nb130 : Nb b120 (.slice A0_8 n0_8 c0_8) := nb_hi ho116 (Nat.le_of_eq hb122)
          have ho131 := own_kept ho115 k123
          have ho132 := own_kept ho116 k123
          refine sap (e := 3) (size := 1) (base := w.heap.size) (m := 1) s125 rfl rfl rfl rfl rfl rfl (by kernel_rfl) ho132 x124 rfl rfl (by omega) (by omega) (by have := ((SG.belowR c118 s125 (fun kq e => (World.ownsRow.lt ho116 kq e).1))).size; omega) (.inl rfl) (fun g133 cap134 w135 ho136 hg137 hat138 hlt139 s140 => ?_)
          have nb141 : Nb b2 (.slice (some ⟨g133, 0, none⟩) (n0_8 + 1) cap134) := nb_app nb0_8_b2 (Nat.lt_of_lt_of_le (blk_lt x6) (World.grownBy.size s125)) hat138
          have nb142 : Nb b53 (.slice (some ⟨g133, 0, none⟩) (n0_8 + 1) cap134) := nb_app nb62 (Nat.lt_of_lt_of_le (blk_lt x67) (World.grownBy.size s125)) hat138
          have nb143 : Nb b120 (.slice (some ⟨g133, 0, none⟩) (n0_8 + 1) cap134) := nb_app nb130 (blk_lt x124) hat138
          have x124 := (hg137.block _ (blk_lt x124) nb130).trans x124
          have ho136 := own_snoc ho136
          have nr144 : NbR (.slice (some ⟨g133, 0, none⟩) (n0_8 + 1) cap134) (.slice (some ⟨g22, 0, none⟩) n12 c13) := nbr_app nr0_1_0 (fun j h => (World.ownsRow.lt ho131 j h).2) (hat3 (v := .slice A0_8 n0_8 c0_8) hat138)
          have ho145 := own_grown ho131 hg137 (NbR.symm nr0_1_0)
          refine sq (v := .slice (some ⟨g133, 0, none⟩) (n0_8 + 1) cap134) rfl (r_assign rfl rfl) rfl rfl rfl ?_
          simp only [List.set_cons_zero, List.set_cons_succ]
          refine sch_end ?_
          have x6 := SG.blk s140 x6 nb0_8_b2
          have x67 := SG.blk s140 x67 nb62
          have c146 := (SG.belowR c118 s140 (fun kq e => (World.ownsRow.lt ho116 kq e).1))
          refine h22 _ _ ?_
          refine wp_seq_k (fun K23 h23 => ?_)
          refine region_quiet [(0, false), (1, false)] rfl ?_
          refine sq (v := .int .i64 x43.fr) rfl (r_move rfl rfl) rfl rfl rfl ?_
          refine sq (v := .int .i64 x43.fr) rfl (r_assign rfl rfl) rfl rfl rfl ?_
          refine sch_end ?_
          simp only [List.set_cons_zero, List.set_cons_succ]
          refine h23 _ _ ?_
          refine wp_exit ?_
          have e8 : wayL (distOf (joined ps) v) ps (distOf (joined ps) v z).toNat z = x43.id :: wayL (distOf (joined ps) v) ps (distOf (joined ps) v x43.fr).toNat x43.fr := by
            rw [show (distOf (joined ps) v z).toNat = (distOf (joined ps) v x43.fr).toNat + 1 by omega]
            exact wayL_succ (by have h9 := stepOf_at hx44 (by rw [ho111]; omega) (by rw [ho111]; exact q117) hno; rw [ho111] at h9; exact h9)
          exact h5 _ _ _ (by omega : ((distOf (joined ps) v x43.fr).toNat) < _) ⟨x43.fr, way ++ [x43.id], (some ⟨g133, 0, none⟩), (n0_8 + 1), cap134, _, _, _, _, _, _, _, _, _, _, _, _, _, _, _, _, _, _, _, _, _, _, _, _, _, _, _, _, _, _, _, _, _, _, _, _, _, _, _, _, _, _, _, _, _, _, _, _, _, _, rfl, rfl, (by omega), (by omega), (by rw [← hw, e8, List.append_assoc]; rfl), (by omega), x6, ho145, ho136, nb141, nr144, c146⟩
        · refine sq (v := .bool false) rfl (r_eql rfl rfl rfl (decide_eq_false q117)) rfl rfl rfl ?_
          refine sq (v := .bool false) rfl (r_pick rfl rfl rfl) rfl rfl rfl ?_
          refine sch_end ?_
          simp only [List.set_cons_zero, List.set_cons_succ]
          have x6 := SG.blk s114 x6 (by simp)
          have x67 := SG.blk s114 x67 (by simp)
          have c147 := (SG.belowR c71 s114 (fun kq e => by cases e))
          refine h21 _ _ ?_
          refine wp_cond_false rfl ?_
          refine wp_skip ?_
          refine h12 _ _ ?_
          refine region_quiet [(0, false), (1, false), (2, false)] rfl ?_
          refine sq (v := .int .i64 ((i : Nat) : Int)) rfl (r_move rfl rfl) rfl rfl rfl ?_
          refine sq (v := .int .i64 ((i + 1 : Nat) : Int)) rfl (r_add (z := ((i + 1 : Nat) : Int)) rfl rfl rfl (by omega) (by omega)) rfl rfl rfl ?_
          refine sq (v := .int .i64 ((i + 1 : Nat) : Int)) rfl (r_assign rfl rfl) rfl rfl rfl ?_
          refine sch_end ?_
          simp only [List.set_cons_zero, List.set_cons_succ]
          exact h9 _ _ _ (by omega : (n - (i + 1)) < _) ⟨i + 1, _, _, _, _, _, _, _, _, _, _, _, _, _, _, _, _, _, _, _, _, _, _, _, _, _, _, _, _, _, _, _, _, _, _, _, _, _, _, _, _, _, _, _, _, _, _, rfl, rfl, (by omega), (upto_succ (Q := fun q => ¬ (0 < otherOf q z ∧ distOf (joined ps) v (otherOf q z) = distOf (joined ps) v z - 1)) hno hx44 (by rw [ho111]; omega)), x6, ho115, ho116, c147⟩
      · have ho148 : otherOf x43 z = 0 := by unfold otherOf; rw [if_neg (fun e => q72 e.symm), if_neg (fun e => q110 e.symm)]
        have hin9 := hp x43 (List.mem_of_getElem? hx44)
        refine sq (v := .bool false) rfl (r_eql rfl rfl rfl (decide_eq_false q110)) rfl rfl rfl ?_
        refine sch_end ?_
        simp only [List.set_cons_zero, List.set_cons_succ]
        refine h20 _ _ ?_
        refine wp_cond_false rfl ?_
        refine wp_skip ?_
        refine h15 _ _ ?_
        refine wp_seq_k (fun K24 h24 => ?_)
        refine region_sch (row := none) (Sch.of [(0, false), (1, false), (2, false), (3, false), (4, false), (5, false), (6, false), (7, false), (8, false), (9, false), (10, false), (11, false), (12, false), (13, false)]) (by kernel_rfl) (by kernel_rfl) (fun _ d _ _ _ h => by cases d <;> exact h) (by kernel_rfl) (fun w149 e150 s151 => ?_)
        have ho152 := own_heap ho69 e150
        have ho153 := own_heap ho70 e150
        refine sq (v := .int .i64 0) rfl (r_move rfl rfl) rfl rfl rfl ?_
        refine sq (v := .bool false) rfl (r_gtr rfl rfl rfl (decide_eq_false (by decide))) rfl rfl rfl ?_
        refine sq (v := .bool false) rfl (r_move rfl rfl) rfl rfl rfl ?_
        refine sk s151 rfl rfl rfl rfl ?_
        refine sk s151 rfl rfl rfl rfl ?_
        simp only [List.set_cons_zero, List.set_cons_succ]
        refine sk s151 rfl rfl rfl rfl ?_
        refine sk s151 rfl rfl rfl rfl ?_
        refine sk s151 rfl rfl rfl rfl ?_
        refine sk s151 rfl rfl rfl rfl ?_
        refine sk s151 rfl rfl rfl rfl ?_
        simp only [List.set_cons_zero, List.set_cons_succ]
        refine sk s151 rfl rfl rfl rfl ?_
        refine sk s151 rfl rfl rfl rfl ?_
        refine sk s151 rfl rfl rfl rfl ?_
        refine sq (v := .bool false) rfl (r_pick rfl rfl rfl) rfl rfl rfl ?_
        refine sch_end ?_
        simp only [List.set_cons_zero, List.set_cons_succ]
        have x6 := SG.blk s151 x6 (by simp)
        have x67 := SG.blk s151 x67 (by simp)
        have c154 := (SG.belowR c71 s151 (fun kq e => by cases e))
        refine h24 _ _ ?_
        refine wp_cond_false rfl ?_
        refine wp_skip ?_
        refine h12 _ _ ?_
        refine region_quiet [(0, false), (1, false), (2, false)] rfl ?_
        refine sq (v := .int .i64 ((i : Nat) : Int)) rfl (r_move rfl rfl) rfl rfl rfl ?_
        refine sq (v := .int .i64 ((i + 1 : Nat) : Int)) rfl (r_add (z := ((i + 1 : Nat) : Int)) rfl rfl rfl (by omega) (by omega)) rfl rfl rfl ?_
        refine sq (v := .int .i64 ((i + 1 : Nat) : Int)) rfl (r_assign rfl rfl) rfl rfl rfl ?_
        refine sch_end ?_
        simp only [List.set_cons_zero, List.set_cons_succ]
        exact h9 _ _ _ (by omega : (n - (i + 1)) < _) ⟨i + 1, _, _, _, _, _, _, _, _, _, _, _, _, _, _, _, _, _, _, _, _, _, _, _, _, _, _, _, _, _, _, _, _, _, _, _, _, _, _, _, _, _, _, _, _, _, _, rfl, rfl, (by omega), (upto_succ (Q := fun q => ¬ (0 < otherOf q z ∧ distOf (joined ps) v (otherOf q z) = distOf (joined ps) v z - 1)) hno hx44 (by rw [ho148]; omega)), x6, ho152, ho153, c154⟩
  · refine sq (v := .bool false) rfl (r_neq rfl rfl rfl (decide_eq_false q40)) rfl rfl rfl ?_
    refine sch_end ?_
    simp only [List.set_cons_zero, List.set_cons_succ]
    refine h7 _ _ ?_
    refine wp_cond_false rfl ?_
    refine wp_exit ?_
    refine h4 _ _ ?_
    refine wp_seq_k (fun K25 h25 => ?_)
    refine region_quiet [(0, false), (1, false)] rfl ?_
    refine sq (v := .slice A0_8 n0_8 c0_8) rfl (r_move rfl rfl) rfl rfl rfl ?_
    refine sq (v := .slice A0_8 n0_8 c0_8) rfl (r_assign rfl rfl) rfl rfl rfl ?_
    refine sch_end ?_
    simp only [List.set_cons_zero, List.set_cons_succ]
    refine h25 _ _ ?_
    refine wp_ret ?_
    try simp only [Exit.then]
    refine ret1 rfl rfl ?_
    have e9 : way = wayL (distOf (joined ps) v) ps (distOf (joined ps) v u).toNat u := by rw [← hw, show z = v by omega, dist_self]; simp [wayL]
    exact ⟨_, _, _, rfl, (by rw [← e9]; exact ho0_8), c39⟩

end Go.Proofs.Ytdlcldaogcbnlaa
