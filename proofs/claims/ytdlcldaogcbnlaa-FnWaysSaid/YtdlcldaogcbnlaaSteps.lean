/- The reference's distances to a node, by rounds. -/
import Derived.Test.YtdlcldaogcbnlaaNetC
import Derived.Test.YtdlcldaogcbnlaaSch4
namespace Go.Proofs.Ytdlcldaogcbnlaa
open Go.RowKit
set_option linter.unusedVariables false

/-- The ends of the pipes before i: a node beside one that has the label s has a label. -/
def shutS (ps : List Pp) (s : Int) (out : List Int) (i : Nat) : Prop := ∀ j p, j < i → ps[j]? = some p → (lab out p.fr = s → 0 ≤ lab out p.to) ∧ (lab out p.to = s → 0 ≤ lab out p.fr)
theorem shutS.next {ps : List Pp} {s : Int} {out : List Int} {i : Nat} {x : Pp} (H : shutS ps s out i) (hx : ps[i]? = some x) (h1 : lab out x.fr = s → 0 ≤ lab out x.to) (h2 : lab out x.to = s → 0 ≤ lab out x.fr) : shutS ps s out (i + 1) := by
  intro j p hj hp
  by_cases e : j = i
  · subst e; rw [hx] at hp; cases hp; exact ⟨h1, h2⟩
  · exact H j p (by omega) hp
theorem shutS.set {ps : List Pp} {s : Int} {out : List Int} {i : Nat} (H : shutS ps s out i) (hs : 0 ≤ s) {v : Int} (h0 : 0 ≤ v) (h1 : v < out.length) : shutS ps s (out.set v.toNat (s + 1)) i := by
  intro j p hj hp
  have := H j p hj hp
  rw [lab_set h0 h1, lab_set h0 h1]
  constructor
  · intro h
    split at h
    · omega
    · have := this.1 h; split <;> omega
  · intro h
    split at h
    · omega
    · have := this.2 h; split <;> omega
theorem shutS.all {ps : List Pp} {s : Int} {out : List Int} (H : shutS ps s out ps.length) : ∀ u v, joined ps u v → lab out u = s → 0 ≤ lab out v := by
  rintro u v ⟨p, hm, he⟩ hu
  obtain ⟨j, hj, hg⟩ := List.getElem_of_mem hm
  have := H j p hj (by rw [List.getElem?_eq_getElem hj, hg])
  rcases he with ⟨rfl, rfl⟩ | ⟨rfl, rfl⟩
  · exact this.1 hu
  · exact this.2 hu

set_option maxRecDepth 100000 in
set_option maxHeartbeats 1000000 in
theorem l2Steps_any (m : Int) (A : Option Addr) (n c : Nat) (ps : List Pp) (u : Int) (w : World) (ha : Rd w 4 A n (pipesV ps)) (hn : n ≤ 1048576) (hp : pipesIn ps m.toNat) (hm : 1 ≤ m ∧ m ≤ 8) (hu0 : 1 ≤ u ∧ u ≤ m) :
    Calls Try.prog 69 #[.agg #[.int .i64 m, .slice A n c], .int .i64 u] w fun e w' => ∃ A' n' c', e = .returned (.slice A' n' c') ∧ w'.ownsRow w.heap.size 3 1 (.slice A' n' c') n' (intsV (distList (joined ps) m.toNat u)) ∧ Below w.heap.size w w' := by
  have hl := rd_pipes_len ha
  have hu : 1 ≤ u ∧ u ≤ (m.toNat : Int) := by omega
  go_enter Try.func69, Try.ntmps69
  refine wp_seq_k (fun K1 h1 => ?_)
  refine region_plain (row := none) [(0, true), (1, false)] rfl ?_
  have s1 := SG.self w none
  refine sn (fun b => .pointer (some ⟨b, 0, none⟩)) #[.int .i64 m, .slice A n c] 31 s1 rfl rfl rfl (fun _ => by kernel_rfl) (fun b2 w3 hb4 k5 x6 s7 => ?_)
  have lo8 : w.heap.size ≤ b2 := by have := ((SG.belowR (Below.refl _ _) s1 (fun kq e => by cases e))).size; omega
  refine sq (v := .slice none 0 0) rfl (r_assign rfl rfl) rfl rfl rfl ?_
  refine sch_end ?_
  simp only [List.set_cons_zero, List.set_cons_succ]
  have c9 := (SG.belowR (Below.refl _ _) s7 (fun kq e => by cases e))
  refine h1 _ _ ?_
  refine wp_seq_k (fun K2 h2 => ?_)
  refine region_plain (row := none) [(0, true), (1, false)] rfl ?_
  have s10 := SG.self w3 none
  refine sn (fun b => .slice (some ⟨b, 0, none⟩) 0 0) #[] 3 s10 rfl rfl rfl (fun _ => by kernel_rfl) (fun b11 w12 hb13 k14 x15 s16 => ?_)
  have lo17 : w.heap.size ≤ b11 := by have := ((SG.belowR c9 s10 (fun kq e => by cases e))).size; omega
  have ne18 : b2 ≠ b11 := by have := blk_lt x6; have := World.grownBy.size s10; omega
  refine sq (v := .slice (some ⟨b11, 0, none⟩) 0 0) rfl (r_assign rfl rfl) rfl rfl rfl ?_
  refine sch_end ?_
  simp only [List.set_cons_zero, List.set_cons_succ]
  have x6 := SG.blk s16 x6 (by simp)
  have c19 := (SG.belowR c9 s16 (fun kq e => by cases e))
  refine h2 _ _ ?_
  refine wp_seq_k (fun K3 h3 => ?_)
  refine wp_seq_k (fun K4 h4 => ?_)
  refine region_quiet [(0, false)] rfl ?_
  refine sq (v := .int .i64 0) rfl (r_assign rfl rfl) rfl rfl rfl ?_
  refine sch_end ?_
  simp only [List.set_cons_zero, List.set_cons_succ]
  refine h4 _ _ ?_
  refine wp_block ?_
  have ho20 := own_empty (base := w.heap.size) (size := 1) x15 lo17
  replace ho20 : World.ownsRow _ _ _ _ _ _ (intsV []) := ho20
  have nb21 : Nb b2 (.slice (some ⟨b11, 0, none⟩) 0 0) := nb_new (by have := ne18; omega)
  refine loopK (fun am0 aa0 wl0 => ∃ (k : Nat) (A0_5 : Option Addr) (n0_5 : Nat) (c0_5 : Nat) (u0_12 u0_13 u0_14 u0_15 u0_16 u0_17 u0_18 u0_19 u0_20 : Value), aa0 = ⟨[.agg #[.int .i64 m, .slice A n c], .int .i64 u, .pointer (some ⟨b2, 0, none⟩), undef, .slice none 0 0, .slice A0_5 n0_5 c0_5, .int .i64 ((k : Nat) : Int), undef, undef, undef, undef, .slice (some ⟨b11, 0, none⟩) 0 0, u0_12, u0_13, u0_14, u0_15, u0_16, u0_17, u0_18, u0_19, u0_20, undef, undef, undef, undef, undef, undef, undef, undef, undef, undef, undef, undef, undef, undef, undef, undef, undef, undef, undef, undef, undef, undef, undef, undef, undef, undef, undef, undef, undef, undef, undef, undef, undef, undef, undef, undef, undef, undef, undef, undef, undef, undef, undef, undef, undef, undef, undef, undef, undef, undef, undef, undef, undef, undef, undef, undef, undef, undef, undef, undef, undef, undef, undef, undef, undef].toArray, []⟩ ∧ (am0 = (m.toNat + 1) - k) ∧ (k ≤ m.toNat + 1) ∧ (n0_5 = k) ∧ (wl0.heap[b2]? = some (.cells #[.int .i64 m, .slice A n c] 31 (0, 0))) ∧ (wl0.ownsRow w.heap.size 3 1 (.slice A0_5 n0_5 c0_5) n0_5 (intsV (List.replicate k (-1)))) ∧ (Nb b2 (.slice A0_5 n0_5 c0_5)) ∧ (Below w.heap.size w wl0)) ((m.toNat + 1) - 0) ?_ ?_
  · exact ⟨0, (some ⟨b11, 0, none⟩), 0, 0, _, _, _, _, _, _, _, _, _, rfl, rfl, (Nat.zero_le _), rfl, x6, ho20, nb21, c19⟩
  rintro am0 aa0 wl0 K5 h5 ⟨k, A0_5, n0_5, c0_5, u0_12, u0_13, u0_14, u0_15, u0_16, u0_17, u0_18, u0_19, u0_20, rfl, rfl, hk, hn5, x6, ho0_5, nb0_5_b2, c22⟩
  refine wp_seq_k (fun K6 h6 => ?_)
  refine wp_seq_k (fun K7 h7 => ?_)
  refine region_quiet [(0, false), (1, false), (2, false), (3, false)] rfl ?_
  refine sq (v := .int .i64 ((k : Nat) : Int)) rfl (r_move rfl rfl) rfl rfl rfl ?_
  refine sq (v := .pointer (some ⟨b2, 0, none⟩)) rfl (r_field0 rfl rfl (by kernel_rfl)) rfl rfl rfl ?_
  refine sq (v := .int .i64 m) rfl (r_load rfl rfl (by kernel_rfl) (eqS (blk_cell (j := 0) x6 rfl))) rfl rfl rfl ?_
  by_cases q23 : (((k : Nat) : Int) : Int) ≤ (m : Int)
  · refine sq (v := .bool true) rfl (r_leq rfl rfl rfl (decide_eq_true q23)) rfl rfl rfl ?_
    refine sch_end ?_
    simp only [List.set_cons_zero, List.set_cons_succ]
    refine h7 _ _ ?_
    refine wp_cond_true rfl ?_
    refine wp_skip ?_
    refine h6 _ _ ?_
    refine wp_seq_k (fun K8 h8 => ?_)
    refine wp_block ?_
    refine region_plain (row := (Value.ownBlock (.slice A0_5 n0_5 c0_5))) [(0, false), (1, true), (2, true), (3, false)] rfl ?_
    have s24 := SG.self wl0 (Value.ownBlock (.slice A0_5 n0_5 c0_5))
    refine sq (v := .slice A0_5 n0_5 c0_5) rfl (r_move rfl rfl) rfl rfl rfl ?_
    refine sn (fun b => .slice (some ⟨b, 0, none⟩) 1 1) #[.int .i64 (-1)] 3 s24 rfl rfl rfl (fun _ => by kernel_rfl) (fun b25 w26 hb27 k28 x29 s30 => ?_)
    have lo31 : w.heap.size ≤ b25 := by have := ((SG.belowR c22 s24 (fun kq e => (World.ownsRow.lt ho0_5 kq e).1))).size; omega
    have ne32 : b2 ≠ b25 := by have := blk_lt x6; have := World.grownBy.size s24; omega
    have nb33 : Nb b25 (.slice A0_5 n0_5 c0_5) := nb_hi ho0_5 (Nat.le_of_eq hb27)
    have ho34 := own_kept ho0_5 k28
    refine sap (e := 3) (size := 1) (base := w.heap.size) (m := 1) s30 rfl rfl rfl rfl rfl rfl (by kernel_rfl) ho34 x29 rfl rfl (by omega) (by omega) (by have := ((SG.belowR c22 s30 (fun kq e => (World.ownsRow.lt ho0_5 kq e).1))).size; omega) (.inl rfl) (fun g35 cap36 w37 ho38 hg39 hat40 hlt41 s42 => ?_)
    have nb43 : Nb b2 (.slice (some ⟨g35, 0, none⟩) (n0_5 + 1) cap36) := nb_app nb0_5_b2 (Nat.lt_of_lt_of_le (blk_lt x6) (World.grownBy.size s30)) hat40
    have nb44 : Nb b25 (.slice (some ⟨g35, 0, none⟩) (n0_5 + 1) cap36) := nb_app nb33 (blk_lt x29) hat40
    have x29 := (hg39.block _ (blk_lt x29) nb33).trans x29
    have ho38 := own_snoc ho38
    refine sq (v := .slice (some ⟨g35, 0, none⟩) (n0_5 + 1) cap36) rfl (r_assign rfl rfl) rfl rfl rfl ?_
    refine sch_end ?_
    simp only [List.set_cons_zero, List.set_cons_succ]
    have x6 := SG.blk s42 x6 nb0_5_b2
    have c45 := (SG.belowR c22 s42 (fun kq e => (World.ownsRow.lt ho0_5 kq e).1))
    refine h8 _ _ ?_
    refine region_quiet [(0, false), (1, false), (2, false)] rfl ?_
    refine sq (v := .int .i64 ((k : Nat) : Int)) rfl (r_move rfl rfl) rfl rfl rfl ?_
    refine sq (v := .int .i64 ((k + 1 : Nat) : Int)) rfl (r_add (z := ((k + 1 : Nat) : Int)) rfl rfl rfl (by omega) (by omega)) rfl rfl rfl ?_
    refine sq (v := .int .i64 ((k + 1 : Nat) : Int)) rfl (r_assign rfl rfl) rfl rfl rfl ?_
    refine sch_end ?_
    simp only [List.set_cons_zero, List.set_cons_succ]
    exact h5 _ _ _ (by omega : ((m.toNat + 1) - (k + 1)) < _) ⟨k + 1, (some ⟨g35, 0, none⟩), (n0_5 + 1), cap36, _, _, _, _, _, _, _, _, _, rfl, rfl, (by omega), (by omega), x6, (by rw [(List.replicate_succ' : List.replicate (k + 1) (-1 : Int) = _)]; exact ho38), nb43, c45⟩
  · obtain ⟨g9, rfl, _, _⟩ := own_addr ho0_5 (by omega)
    refine sq (v := .bool false) rfl (r_leq rfl rfl rfl (decide_eq_false q23)) rfl rfl rfl ?_
    refine sch_end ?_
    simp only [List.set_cons_zero, List.set_cons_succ]
    refine h7 _ _ ?_
    refine wp_cond_false rfl ?_
    refine wp_exit ?_
    refine h3 _ _ ?_
    refine wp_seq_k (fun K9 h9 => ?_)
    refine region_plain (row := (Value.ownBlock (.slice (some ⟨g9, 0, none⟩) n0_5 c0_5))) [(0, false), (1, false), (2, false), (3, true)] rfl ?_
    have s46 := SG.self wl0 (Value.ownBlock (.slice (some ⟨g9, 0, none⟩) n0_5 c0_5))
    refine sq (v := .slice (some ⟨g9, 0, none⟩) n0_5 c0_5) rfl (r_move rfl rfl) rfl rfl rfl ?_
    refine sq (v := .int .i64 u) rfl (r_move rfl rfl) rfl rfl rfl ?_
    refine sq (v := .pointer (some ⟨g9, (u).toNat, none⟩)) rfl (r_idx0 (k := (u).toNat) rfl rfl (by show Value.int .i64 u = _; rw [Int.toNat_of_nonneg (by omega)]) (by kernel_rfl) (by omega)) rfl rfl rfl ?_
    refine ssr (base := w.heap.size) (e := 3) (j := (u).toNat) (u := .int .i64 0) s46 rfl rfl rfl rfl rfl rfl ho0_5 (by kernel_rfl) rfl rfl (by omega) (.inl rfl) (fun w47 ho48 g49 s50 => ?_)
    have ho48 := own_setI ho48
    refine sch_end ?_
    simp only [List.set_cons_zero, List.set_cons_succ]
    have x6 := SG.blk s50 x6 nb0_5_b2
    have c51 := (SG.belowR c22 s50 (fun kq e => (World.ownsRow.lt ho0_5 kq e).1))
    refine h9 _ _ ?_
    refine wp_seq_k (fun K10 h10 => ?_)
    refine wp_seq_k (fun K11 h11 => ?_)
    refine region_quiet [(0, false)] rfl ?_
    refine sq (v := .int .i64 0) rfl (r_assign rfl rfl) rfl rfl rfl ?_
    refine sch_end ?_
    simp only [List.set_cons_zero, List.set_cons_succ]
    refine h11 _ _ ?_
    refine wp_block ?_
    obtain rfl : k = m.toNat + 1 := by omega
    refine loopK (fun am1 aa1 wl1 => ∃ (s : Nat) (out : List Int) (u1_8 u1_9 u1_10 u1_24 u1_25 u1_26 u1_27 u1_28 u1_29 u1_30 u1_31 u1_32 u1_33 u1_34 u1_35 u1_36 u1_37 u1_38 u1_39 u1_40 u1_41 u1_42 u1_43 u1_44 u1_45 u1_46 u1_47 u1_48 u1_49 u1_50 u1_51 u1_52 u1_53 u1_54 u1_55 u1_56 u1_57 u1_58 u1_59 u1_60 u1_61 u1_62 u1_63 u1_64 u1_65 u1_66 u1_67 u1_68 u1_69 u1_70 u1_71 u1_72 u1_73 u1_74 u1_75 u1_76 u1_77 u1_78 u1_79 u1_80 u1_81 u1_82 u1_83 u1_84 : Value), aa1 = ⟨[.agg #[.int .i64 m, .slice A n c], .int .i64 u, .pointer (some ⟨b2, 0, none⟩), undef, .slice none 0 0, .slice (some ⟨g9, 0, none⟩) n0_5 c0_5, .int .i64 (((m.toNat + 1) : Nat) : Int), .int .i64 ((s : Nat) : Int), u1_8, u1_9, u1_10, .slice (some ⟨b11, 0, none⟩) 0 0, .int .i64 (((m.toNat + 1) : Nat) : Int), .pointer (some ⟨b2, 0, none⟩), .int .i64 m, .bool false, u0_16, u0_17, u0_18, u0_19, u0_20, .slice (some ⟨g9, 0, none⟩) n0_5 c0_5, .int .i64 u, .pointer (some ⟨g9, (u).toNat, none⟩), u1_24, u1_25, u1_26, u1_27, u1_28, u1_29, u1_30, u1_31, u1_32, u1_33, u1_34, u1_35, u1_36, u1_37, u1_38, u1_39, u1_40, u1_41, u1_42, u1_43, u1_44, u1_45, u1_46, u1_47, u1_48, u1_49, u1_50, u1_51, u1_52, u1_53, u1_54, u1_55, u1_56, u1_57, u1_58, u1_59, u1_60, u1_61, u1_62, u1_63, u1_64, u1_65, u1_66, u1_67, u1_68, u1_69, u1_70, u1_71, u1_72, u1_73, u1_74, u1_75, u1_76, u1_77, u1_78, u1_79, u1_80, u1_81, u1_82, u1_83, u1_84, undef].toArray, []⟩ ∧ (am1 = m.toNat - s) ∧ (s ≤ m.toNat) ∧ (Stp (joined ps) m.toNat u s out) ∧ (wl1.heap[b2]? = some (.cells #[.int .i64 m, .slice A n c] 31 (0, 0))) ∧ (wl1.ownsRow w.heap.size 3 1 (.slice (some ⟨g9, 0, none⟩) n0_5 c0_5) n0_5 (intsV out)) ∧ (Below w.heap.size w wl1)) (m.toNat - 0) ?_ ?_
    · exact ⟨0, (List.replicate (m.toNat + 1) (-1)).set u.toNat 0, _, _, _, _, _, _, _, _, _, _, _, _, _, _, _, _, _, _, _, _, _, _, _, _, _, _, _, _, _, _, _, _, _, _, _, _, _, _, _, _, _, _, _, _, _, _, _, _, _, _, _, _, _, _, _, _, _, _, _, _, _, _, _, _, rfl, rfl, (Nat.zero_le _), (Stp.init hu), x6, ho48, c51⟩
    rintro am1 aa1 wl1 K12 h12 ⟨s, out, u1_8, u1_9, u1_10, u1_24, u1_25, u1_26, u1_27, u1_28, u1_29, u1_30, u1_31, u1_32, u1_33, u1_34, u1_35, u1_36, u1_37, u1_38, u1_39, u1_40, u1_41, u1_42, u1_43, u1_44, u1_45, u1_46, u1_47, u1_48, u1_49, u1_50, u1_51, u1_52, u1_53, u1_54, u1_55, u1_56, u1_57, u1_58, u1_59, u1_60, u1_61, u1_62, u1_63, u1_64, u1_65, u1_66, u1_67, u1_68, u1_69, u1_70, u1_71, u1_72, u1_73, u1_74, u1_75, u1_76, u1_77, u1_78, u1_79, u1_80, u1_81, u1_82, u1_83, u1_84, rfl, rfl, hs, hS, x6, ho1_5, c52⟩
    refine wp_seq_k (fun K13 h13 => ?_)
    refine wp_seq_k (fun K14 h14 => ?_)
    refine region_quiet [(0, false), (1, false), (2, false), (3, false)] rfl ?_
    refine sq (v := .int .i64 ((s : Nat) : Int)) rfl (r_move rfl rfl) rfl rfl rfl ?_
    refine sq (v := .pointer (some ⟨b2, 0, none⟩)) rfl (r_field0 rfl rfl (by kernel_rfl)) rfl rfl rfl ?_
    refine sq (v := .int .i64 m) rfl (r_load rfl rfl (by kernel_rfl) (eqS (blk_cell (j := 0) x6 rfl))) rfl rfl rfl ?_
    by_cases q53 : (((s : Nat) : Int) : Int) < (m : Int)
    · refine sq (v := .bool true) rfl (r_lss rfl rfl rfl (decide_eq_true q53)) rfl rfl rfl ?_
      refine sch_end ?_
      simp only [List.set_cons_zero, List.set_cons_succ]
      refine h14 _ _ ?_
      refine wp_cond_true rfl ?_
      refine wp_skip ?_
      refine h13 _ _ ?_
      refine wp_seq_k (fun K15 h15 => ?_)
      refine wp_block ?_
      refine wp_seq_k (fun K16 h16 => ?_)
      refine region_quiet [(0, false)] rfl ?_
      refine sq (v := .int .i64 0) rfl (r_assign rfl rfl) rfl rfl rfl ?_
      refine sch_end ?_
      simp only [List.set_cons_zero, List.set_cons_succ]
      refine h16 _ _ ?_
      refine wp_block ?_
      refine loopK (fun am2 aa2 wl2 => ∃ (i : Nat) (o2 : List Int) (u2_9 u2_10 u2_30 u2_31 u2_32 u2_33 u2_34 u2_35 u2_36 u2_37 u2_38 u2_39 u2_40 u2_41 u2_42 u2_43 u2_44 u2_45 u2_46 u2_47 u2_48 u2_49 u2_50 u2_51 u2_52 u2_53 u2_54 u2_55 u2_56 u2_57 u2_58 u2_59 u2_60 u2_61 u2_62 u2_63 u2_64 u2_65 u2_66 u2_67 u2_68 u2_69 u2_70 u2_71 u2_72 u2_73 u2_74 u2_75 u2_76 u2_77 u2_78 u2_79 u2_80 u2_81 u2_82 u2_83 u2_84 : Value), aa2 = ⟨[.agg #[.int .i64 m, .slice A n c], .int .i64 u, .pointer (some ⟨b2, 0, none⟩), undef, .slice none 0 0, .slice (some ⟨g9, 0, none⟩) n0_5 c0_5, .int .i64 (((m.toNat + 1) : Nat) : Int), .int .i64 ((s : Nat) : Int), .int .i64 ((i : Nat) : Int), u2_9, u2_10, .slice (some ⟨b11, 0, none⟩) 0 0, .int .i64 (((m.toNat + 1) : Nat) : Int), .pointer (some ⟨b2, 0, none⟩), .int .i64 m, .bool false, u0_16, u0_17, u0_18, u0_19, u0_20, .slice (some ⟨g9, 0, none⟩) n0_5 c0_5, .int .i64 u, .pointer (some ⟨g9, (u).toNat, none⟩), .int .i64 ((s : Nat) : Int), .pointer (some ⟨b2, 0, none⟩), .int .i64 m, .bool true, u1_28, u1_29, u2_30, u2_31, u2_32, u2_33, u2_34, u2_35, u2_36, u2_37, u2_38, u2_39, u2_40, u2_41, u2_42, u2_43, u2_44, u2_45, u2_46, u2_47, u2_48, u2_49, u2_50, u2_51, u2_52, u2_53, u2_54, u2_55, u2_56, u2_57, u2_58, u2_59, u2_60, u2_61, u2_62, u2_63, u2_64, u2_65, u2_66, u2_67, u2_68, u2_69, u2_70, u2_71, u2_72, u2_73, u2_74, u2_75, u2_76, u2_77, u2_78, u2_79, u2_80, u2_81, u2_82, u2_83, u2_84, undef].toArray, []⟩ ∧ (am2 = n - i) ∧ (i ≤ n) ∧ (Stp (joined ps) m.toNat u s o2) ∧ (shutS ps s o2 i) ∧ (wl2.heap[b2]? = some (.cells #[.int .i64 m, .slice A n c] 31 (0, 0))) ∧ (wl2.ownsRow w.heap.size 3 1 (.slice (some ⟨g9, 0, none⟩) n0_5 c0_5) n0_5 (intsV o2)) ∧ (Below w.heap.size w wl2)) (n - 0) ?_ ?_
      · exact ⟨0, out, _, _, _, _, _, _, _, _, _, _, _, _, _, _, _, _, _, _, _, _, _, _, _, _, _, _, _, _, _, _, _, _, _, _, _, _, _, _, _, _, _, _, _, _, _, _, _, _, _, _, _, _, _, _, _, _, _, rfl, rfl, (Nat.zero_le _), hS, (fun j p hj => absurd hj (by omega)), x6, ho1_5, c52⟩
      rintro am2 aa2 wl2 K17 h17 ⟨i, o2, u2_9, u2_10, u2_30, u2_31, u2_32, u2_33, u2_34, u2_35, u2_36, u2_37, u2_38, u2_39, u2_40, u2_41, u2_42, u2_43, u2_44, u2_45, u2_46, u2_47, u2_48, u2_49, u2_50, u2_51, u2_52, u2_53, u2_54, u2_55, u2_56, u2_57, u2_58, u2_59, u2_60, u2_61, u2_62, u2_63, u2_64, u2_65, u2_66, u2_67, u2_68, u2_69, u2_70, u2_71, u2_72, u2_73, u2_74, u2_75, u2_76, u2_77, u2_78, u2_79, u2_80, u2_81, u2_82, u2_83, u2_84, rfl, rfl, hi, hS2, hsh, x6, ho2_5, c54⟩
      refine wp_seq_k (fun K18 h18 => ?_)
      refine wp_seq_k (fun K19 h19 => ?_)
      refine region_quiet [(0, false), (1, false), (2, false), (3, false), (4, false)] rfl ?_
      refine sq (v := .int .i64 ((i : Nat) : Int)) rfl (r_move rfl rfl) rfl rfl rfl ?_
      refine sq (v := .pointer (some ⟨b2, 1, none⟩)) rfl (r_field (k := 1) rfl rfl (by kernel_rfl)) rfl rfl rfl ?_
      refine sq (v := .slice A n c) rfl (r_load rfl rfl (by kernel_rfl) (eqS (blk_cell (j := 1) x6 rfl))) rfl rfl rfl ?_
      refine sq (v := .int .i64 ((n : Nat) : Int)) rfl (r_len rfl rfl (by kernel_rfl)) rfl rfl rfl ?_
      by_cases q55 : (((i : Nat) : Int) : Int) < (((n : Nat) : Int) : Int)
      · refine sq (v := .bool true) rfl (r_lss rfl rfl rfl (decide_eq_true q55)) rfl rfl rfl ?_
        simp only [List.set_cons_zero, List.set_cons_succ]
        refine sch_end ?_
        refine h19 _ _ ?_
        refine wp_cond_true rfl ?_
        refine wp_skip ?_
        refine h18 _ _ ?_
        refine wp_seq_k (fun K20 h20 => ?_)
        refine wp_block ?_
        refine wp_seq_k (fun K21 h21 => ?_)
        refine region_sch (row := none) (Sch.of [(0, false), (1, false), (2, false), (3, false), (4, false), (5, false), (6, false), (7, false), (8, false), (9, false), (10, false), (11, false), (12, false), (13, false)]) (by kernel_rfl) (by kernel_rfl) (fun _ d _ _ _ h => by cases d <;> exact h) (by kernel_rfl) (fun w56 e57 s58 => ?_)
        have ho59 := own_heap ho2_5 e57
        refine sq (v := .pointer (some ⟨b2, 1, none⟩)) rfl (r_field (k := 1) rfl rfl (by kernel_rfl)) rfl rfl rfl ?_
        refine sq (v := .slice A n c) rfl (r_load rfl rfl (by kernel_rfl) (sgS (blk_cell (j := 1) x6 rfl) (by simp))) rfl rfl rfl ?_
        refine sq (v := .int .i64 ((i : Nat) : Int)) rfl (r_move rfl rfl) rfl rfl rfl ?_
        obtain ⟨x60, hx61⟩ := get_of (zs := ps) (k := i) (by have := hl; omega)
        obtain ⟨b62, o63, hA64, hb65, hc66, hc67, hc68, hc69⟩ := Rd.elPipe ha hx61
        refine sq (v := .pointer (some ⟨b62, o63 + i * 4, none⟩)) rfl (r_idx (k := i) rfl rfl hA64 rfl (by kernel_rfl) (by have := hl; omega)) rfl rfl rfl ?_
        refine sq (v := .pointer (some ⟨b62, o63 + i * 4 + 1, none⟩)) rfl (r_field (k := 1) rfl rfl (by kernel_rfl)) rfl rfl rfl ?_
        simp only [List.set_cons_zero, List.set_cons_succ]
        refine sq (v := .int .i64 x60.fr) rfl (r_load rfl rfl (by kernel_rfl) (sgS (later c54 hc67) (by simp))) rfl rfl rfl ?_
        refine sq (v := .pointer (some ⟨b2, 1, none⟩)) rfl (r_field (k := 1) rfl rfl (by kernel_rfl)) rfl rfl rfl ?_
        refine sq (v := .slice A n c) rfl (r_load rfl rfl (by kernel_rfl) (sgS (blk_cell (j := 1) x6 rfl) (by simp))) rfl rfl rfl ?_
        refine sq (v := .int .i64 ((i : Nat) : Int)) rfl (r_move rfl rfl) rfl rfl rfl ?_
        refine sq (v := .pointer (some ⟨b62, o63 + i * 4, none⟩)) rfl (r_idx (k := i) rfl rfl hA64 rfl (by kernel_rfl) (by have := hl; omega)) rfl rfl rfl ?_
        simp only [List.set_cons_zero, List.set_cons_succ]
        refine sq (v := .pointer (some ⟨b62, o63 + i * 4 + 2, none⟩)) rfl (r_field (k := 2) rfl rfl (by kernel_rfl)) rfl rfl rfl ?_
        refine sq (v := .int .i64 x60.to) rfl (r_load rfl rfl (by kernel_rfl) (sgS (later c54 hc68) (by simp))) rfl rfl rfl ?_
        refine sq (v := .int .i64 x60.fr) rfl (r_assign rfl rfl) rfl rfl rfl ?_
        refine sq (v := .int .i64 x60.to) rfl (r_assign rfl rfl) rfl rfl rfl ?_
        refine sch_end ?_
        simp only [List.set_cons_zero, List.set_cons_succ]
        have x6 := SG.blk s58 x6 (by simp)
        have c70 := (SG.belowR c54 s58 (fun kq e => by cases e))
        refine h21 _ _ ?_
        refine wp_seq_k (fun K22 h22 => ?_)
        refine wp_seq_k (fun K23 h23 => ?_)
        refine region_quiet [(0, false), (1, false), (2, false), (3, false), (4, false), (5, false), (6, false), (7, false), (8, false), (9, false), (10, false), (11, false), (12, false)] rfl ?_
        refine sq (v := .slice (some ⟨g9, 0, none⟩) n0_5 c0_5) rfl (r_move rfl rfl) rfl rfl rfl ?_
        refine sq (v := .int .i64 x60.fr) rfl (r_move rfl rfl) rfl rfl rfl ?_
        have hin9 := hp x60 (List.mem_of_getElem? hx61)
        refine sq (v := .pointer (some ⟨g9, (x60.fr).toNat, none⟩)) rfl (r_idx0 (k := (x60.fr).toNat) rfl rfl (by show Value.int .i64 x60.fr = _; rw [Int.toNat_of_nonneg (by omega)]) (by kernel_rfl) (by omega)) rfl rfl rfl ?_
        refine sq (v := .int .i64 (lab o2 x60.fr)) rfl (r_load rfl rfl (by kernel_rfl) (eqS (own_atI ho59 (lab_get (by omega) (by have h9 := hS2.len; omega))))) rfl rfl rfl ?_
        refine sq (v := .int .i64 ((s : Nat) : Int)) rfl (r_move rfl rfl) rfl rfl rfl ?_
        simp only [List.set_cons_zero, List.set_cons_succ]
        by_cases q71 : (lab o2 x60.fr : Int) = (((s : Nat) : Int) : Int)
        · refine sq (v := .bool true) rfl (r_eql rfl rfl rfl (decide_eq_true q71)) rfl rfl rfl ?_
          refine sq (v := .bool true) rfl (r_move rfl rfl) rfl rfl rfl ?_
          refine sq (v := .slice (some ⟨g9, 0, none⟩) n0_5 c0_5) rfl (r_move rfl rfl) rfl rfl rfl ?_
          refine sq (v := .int .i64 x60.to) rfl (r_move rfl rfl) rfl rfl rfl ?_
          refine sq (v := .pointer (some ⟨g9, (x60.to).toNat, none⟩)) rfl (r_idx0 (k := (x60.to).toNat) rfl rfl (by show Value.int .i64 x60.to = _; rw [Int.toNat_of_nonneg (by omega)]) (by kernel_rfl) (by omega)) rfl rfl rfl ?_
          simp only [List.set_cons_zero, List.set_cons_succ]
          refine sq (v := .int .i64 (lab o2 x60.to)) rfl (r_load rfl rfl (by kernel_rfl) (eqS (own_atI ho59 (lab_get (by omega) (by have h9 := hS2.len; omega))))) rfl rfl rfl ?_
          by_cases q72 : (lab o2 x60.to : Int) < (0 : Int)
          · refine sq (v := .bool true) rfl (r_lss rfl rfl rfl (decide_eq_true q72)) rfl rfl rfl ?_
            refine sq (v := .bool true) rfl (r_pick rfl rfl rfl) rfl rfl rfl ?_
            refine sch_end ?_
            simp only [List.set_cons_zero, List.set_cons_succ]
            refine h23 _ _ ?_
            refine wp_cond_true rfl ?_
            refine region_plain (row := (Value.ownBlock (.slice (some ⟨g9, 0, none⟩) n0_5 c0_5))) [(0, false), (1, false), (2, false), (3, false), (4, false), (5, true)] rfl ?_
            have s73 := SG.self w56 (Value.ownBlock (.slice (some ⟨g9, 0, none⟩) n0_5 c0_5))
            refine sq (v := .slice (some ⟨g9, 0, none⟩) n0_5 c0_5) rfl (r_move rfl rfl) rfl rfl rfl ?_
            refine sq (v := .int .i64 x60.to) rfl (r_move rfl rfl) rfl rfl rfl ?_
            refine sq (v := .int .i64 ((s : Nat) : Int)) rfl (r_move rfl rfl) rfl rfl rfl ?_
            refine sq (v := .int .i64 ((s + 1 : Nat) : Int)) rfl (r_add (z := ((s + 1 : Nat) : Int)) rfl rfl rfl (by omega) (by omega)) rfl rfl rfl ?_
            refine sq (v := .pointer (some ⟨g9, (x60.to).toNat, none⟩)) rfl (r_idx0 (k := (x60.to).toNat) rfl rfl (by show Value.int .i64 x60.to = _; rw [Int.toNat_of_nonneg (by omega)]) (by kernel_rfl) (by omega)) rfl rfl rfl ?_
            simp only [List.set_cons_zero, List.set_cons_succ]
            refine ssr (base := w.heap.size) (e := 3) (j := (x60.to).toNat) (u := .int .i64 ((s + 1 : Nat) : Int)) s73 rfl rfl rfl rfl rfl rfl ho59 (by kernel_rfl) rfl rfl (by omega) (.inl rfl) (fun w74 ho75 g76 s77 => ?_)
            have ho75 := own_setI ho75
            refine sch_end ?_
            have x6 := SG.blk s77 x6 nb0_5_b2
            have c78 := (SG.belowR c70 s77 (fun kq e => (World.ownsRow.lt ho59 kq e).1))
            refine h22 _ _ ?_
            refine wp_seq_k (fun K24 h24 => ?_)
            refine region_quiet [(0, false), (1, false), (2, false), (3, false), (4, false), (5, false), (6, false), (7, false), (8, false), (9, false), (10, false), (11, false), (12, false)] rfl ?_
            refine sq (v := .slice (some ⟨g9, 0, none⟩) n0_5 c0_5) rfl (r_move rfl rfl) rfl rfl rfl ?_
            refine sq (v := .int .i64 x60.to) rfl (r_move rfl rfl) rfl rfl rfl ?_
            have V79 : Stp (joined ps) m.toNat u s (o2.set ((x60.to).toNat) ((s + 1 : Nat) : Int)) ∧ (∀ b, 0 ≤ lab o2 b → lab (o2.set ((x60.to).toNat) ((s + 1 : Nat) : Int)) b = lab o2 b) ∧ lab (o2.set ((x60.to).toNat) ((s + 1 : Nat) : Int)) x60.to = (s : Int) + 1 := Stp.label hS2 (by omega) (u := x60.fr) (by omega) ⟨x60, List.mem_of_getElem? hx61, .inl ⟨rfl, rfl⟩⟩ (by omega) (by omega)
            refine sq (v := .pointer (some ⟨g9, (x60.to).toNat, none⟩)) rfl (r_idx0 (k := (x60.to).toNat) rfl rfl (by show Value.int .i64 x60.to = _; rw [Int.toNat_of_nonneg (by omega)]) (by kernel_rfl) (by omega)) rfl rfl rfl ?_
            refine sq (v := .int .i64 (lab (o2.set ((x60.to).toNat) ((s + 1 : Nat) : Int)) x60.to)) rfl (r_load rfl rfl (by kernel_rfl) (eqS (own_atI ho75 (lab_get (by omega) (by have h9 := V79.1.len; omega))))) rfl rfl rfl ?_
            refine sq (v := .int .i64 ((s : Nat) : Int)) rfl (r_move rfl rfl) rfl rfl rfl ?_
            simp only [List.set_cons_zero, List.set_cons_succ]
            refine sq (v := .bool false) rfl (r_eql rfl rfl rfl (decide_eq_false (by have h9 := V79.2.2; omega))) rfl rfl rfl ?_
            refine sq (v := .bool false) rfl (r_move rfl rfl) rfl rfl rfl ?_
            refine sk rfl rfl rfl rfl rfl ?_
            refine sk rfl rfl rfl rfl rfl ?_
            refine sk rfl rfl rfl rfl rfl ?_
            simp only [List.set_cons_zero, List.set_cons_succ]
            refine sk rfl rfl rfl rfl rfl ?_
            refine sk rfl rfl rfl rfl rfl ?_
            refine sq (v := .bool false) rfl (r_pick rfl rfl rfl) rfl rfl rfl ?_
            refine sch_end ?_
            simp only [List.set_cons_zero, List.set_cons_succ]
            refine h24 _ _ ?_
            refine wp_cond_false rfl ?_
            refine wp_skip ?_
            refine h20 _ _ ?_
            refine region_quiet [(0, false), (1, false), (2, false)] rfl ?_
            refine sq (v := .int .i64 ((i : Nat) : Int)) rfl (r_move rfl rfl) rfl rfl rfl ?_
            refine sq (v := .int .i64 ((i + 1 : Nat) : Int)) rfl (r_add (z := ((i + 1 : Nat) : Int)) rfl rfl rfl (by omega) (by omega)) rfl rfl rfl ?_
            refine sq (v := .int .i64 ((i + 1 : Nat) : Int)) rfl (r_assign rfl rfl) rfl rfl rfl ?_
            refine sch_end ?_
            simp only [List.set_cons_zero, List.set_cons_succ]
            exact h17 _ _ _ (by omega : (n - (i + 1)) < _) ⟨i + 1, (o2.set ((x60.to).toNat) ((s + 1 : Nat) : Int)), _, _, _, _, _, _, _, _, _, _, _, _, _, _, _, _, _, _, _, _, _, _, _, _, _, _, _, _, _, _, _, _, _, _, _, _, _, _, _, _, _, _, _, _, _, _, _, _, _, _, _, _, _, _, _, _, _, rfl, rfl, (by omega), V79.1, (shutS.next (shutS.set hsh (by omega) (by omega) (by have h9 := hS2.len; omega)) hx61 (fun h9 => by have h8 := V79.2.2; have h7 := V79.2.1; first | (have h6 := h7 x60.fr (by omega); omega) | (have h6 := h7 x60.to (by omega); omega) | omega) (fun h9 => by have h8 := V79.2.2; have h7 := V79.2.1; first | (have h6 := h7 x60.fr (by omega); omega) | (have h6 := h7 x60.to (by omega); omega) | omega)), x6, ho75, c78⟩
          · refine sq (v := .bool false) rfl (r_lss rfl rfl rfl (decide_eq_false q72)) rfl rfl rfl ?_
            refine sq (v := .bool false) rfl (r_pick rfl rfl rfl) rfl rfl rfl ?_
            refine sch_end ?_
            simp only [List.set_cons_zero, List.set_cons_succ]
            refine h23 _ _ ?_
            refine wp_cond_false rfl ?_
            refine wp_skip ?_
            refine h22 _ _ ?_
            refine wp_seq_k (fun K25 h25 => ?_)
            refine region_quiet [(0, false), (1, false), (2, false), (3, false), (4, false), (5, false), (6, false), (7, false), (8, false), (9, false), (10, false), (11, false), (12, false)] rfl ?_
            refine sq (v := .slice (some ⟨g9, 0, none⟩) n0_5 c0_5) rfl (r_move rfl rfl) rfl rfl rfl ?_
            refine sq (v := .int .i64 x60.to) rfl (r_move rfl rfl) rfl rfl rfl ?_
            refine sq (v := .pointer (some ⟨g9, (x60.to).toNat, none⟩)) rfl (r_idx0 (k := (x60.to).toNat) rfl rfl (by show Value.int .i64 x60.to = _; rw [Int.toNat_of_nonneg (by omega)]) (by kernel_rfl) (by omega)) rfl rfl rfl ?_
            refine sq (v := .int .i64 (lab o2 x60.to)) rfl (r_load rfl rfl (by kernel_rfl) (eqS (own_atI ho59 (lab_get (by omega) (by have h9 := hS2.len; omega))))) rfl rfl rfl ?_
            refine sq (v := .int .i64 ((s : Nat) : Int)) rfl (r_move rfl rfl) rfl rfl rfl ?_
            simp only [List.set_cons_zero, List.set_cons_succ]
            by_cases q80 : (lab o2 x60.to : Int) = (((s : Nat) : Int) : Int)
            · refine sq (v := .bool true) rfl (r_eql rfl rfl rfl (decide_eq_true q80)) rfl rfl rfl ?_
              refine sq (v := .bool true) rfl (r_move rfl rfl) rfl rfl rfl ?_
              refine sq (v := .slice (some ⟨g9, 0, none⟩) n0_5 c0_5) rfl (r_move rfl rfl) rfl rfl rfl ?_
              refine sq (v := .int .i64 x60.fr) rfl (r_move rfl rfl) rfl rfl rfl ?_
              refine sq (v := .pointer (some ⟨g9, (x60.fr).toNat, none⟩)) rfl (r_idx0 (k := (x60.fr).toNat) rfl rfl (by show Value.int .i64 x60.fr = _; rw [Int.toNat_of_nonneg (by omega)]) (by kernel_rfl) (by omega)) rfl rfl rfl ?_
              simp only [List.set_cons_zero, List.set_cons_succ]
              refine sq (v := .int .i64 (lab o2 x60.fr)) rfl (r_load rfl rfl (by kernel_rfl) (eqS (own_atI ho59 (lab_get (by omega) (by have h9 := hS2.len; omega))))) rfl rfl rfl ?_
              by_cases q81 : (lab o2 x60.fr : Int) < (0 : Int)
              · refine sq (v := .bool true) rfl (r_lss rfl rfl rfl (decide_eq_true q81)) rfl rfl rfl ?_
                refine sq (v := .bool true) rfl (r_pick rfl rfl rfl) rfl rfl rfl ?_
                refine sch_end ?_
                simp only [List.set_cons_zero, List.set_cons_succ]
                refine h25 _ _ ?_
                refine wp_cond_true rfl ?_
                refine region_plain (row := (Value.ownBlock (.slice (some ⟨g9, 0, none⟩) n0_5 c0_5))) [(0, false), (1, false), (2, false), (3, false), (4, false), (5, true)] rfl ?_
                have s82 := SG.self w56 (Value.ownBlock (.slice (some ⟨g9, 0, none⟩) n0_5 c0_5))
                refine sq (v := .slice (some ⟨g9, 0, none⟩) n0_5 c0_5) rfl (r_move rfl rfl) rfl rfl rfl ?_
                refine sq (v := .int .i64 x60.fr) rfl (r_move rfl rfl) rfl rfl rfl ?_
                refine sq (v := .int .i64 ((s : Nat) : Int)) rfl (r_move rfl rfl) rfl rfl rfl ?_
                refine sq (v := .int .i64 ((s + 1 : Nat) : Int)) rfl (r_add (z := ((s + 1 : Nat) : Int)) rfl rfl rfl (by omega) (by omega)) rfl rfl rfl ?_
                refine sq (v := .pointer (some ⟨g9, (x60.fr).toNat, none⟩)) rfl (r_idx0 (k := (x60.fr).toNat) rfl rfl (by show Value.int .i64 x60.fr = _; rw [Int.toNat_of_nonneg (by omega)]) (by kernel_rfl) (by omega)) rfl rfl rfl ?_
                simp only [List.set_cons_zero, List.set_cons_succ]
                refine ssr (base := w.heap.size) (e := 3) (j := (x60.fr).toNat) (u := .int .i64 ((s + 1 : Nat) : Int)) s82 rfl rfl rfl rfl rfl rfl ho59 (by kernel_rfl) rfl rfl (by omega) (.inl rfl) (fun w83 ho84 g85 s86 => ?_)
                have ho84 := own_setI ho84
                refine sch_end ?_
                have x6 := SG.blk s86 x6 nb0_5_b2
                have c87 := (SG.belowR c70 s86 (fun kq e => (World.ownsRow.lt ho59 kq e).1))
                refine h20 _ _ ?_
                refine region_quiet [(0, false), (1, false), (2, false)] rfl ?_
                refine sq (v := .int .i64 ((i : Nat) : Int)) rfl (r_move rfl rfl) rfl rfl rfl ?_
                refine sq (v := .int .i64 ((i + 1 : Nat) : Int)) rfl (r_add (z := ((i + 1 : Nat) : Int)) rfl rfl rfl (by omega) (by omega)) rfl rfl rfl ?_
                refine sq (v := .int .i64 ((i + 1 : Nat) : Int)) rfl (r_assign rfl rfl) rfl rfl rfl ?_
                refine sch_end ?_
                simp only [List.set_cons_zero, List.set_cons_succ]
                have V88 : Stp (joined ps) m.toNat u s (o2.set ((x60.fr).toNat) ((s + 1 : Nat) : Int)) ∧ (∀ b, 0 ≤ lab o2 b → lab (o2.set ((x60.fr).toNat) ((s + 1 : Nat) : Int)) b = lab o2 b) ∧ lab (o2.set ((x60.fr).toNat) ((s + 1 : Nat) : Int)) x60.fr = (s : Int) + 1 := Stp.label hS2 (by omega) (u := x60.to) (by omega) ⟨x60, List.mem_of_getElem? hx61, .inr ⟨rfl, rfl⟩⟩ (by omega) (by omega)
                exact h17 _ _ _ (by omega : (n - (i + 1)) < _) ⟨i + 1, (o2.set ((x60.fr).toNat) ((s + 1 : Nat) : Int)), _, _, _, _, _, _, _, _, _, _, _, _, _, _, _, _, _, _, _, _, _, _, _, _, _, _, _, _, _, _, _, _, _, _, _, _, _, _, _, _, _, _, _, _, _, _, _, _, _, _, _, _, _, _, _, _, _, rfl, rfl, (by omega), V88.1, (shutS.next (shutS.set hsh (by omega) (by omega) (by have h9 := hS2.len; omega)) hx61 (fun h9 => by have h8 := V88.2.2; have h7 := V88.2.1; first | (have h6 := h7 x60.fr (by omega); omega) | (have h6 := h7 x60.to (by omega); omega) | omega) (fun h9 => by have h8 := V88.2.2; have h7 := V88.2.1; first | (have h6 := h7 x60.fr (by omega); omega) | (have h6 := h7 x60.to (by omega); omega) | omega)), x6, ho84, c87⟩
              · refine sq (v := .bool false) rfl (r_lss rfl rfl rfl (decide_eq_false q81)) rfl rfl rfl ?_
                refine sq (v := .bool false) rfl (r_pick rfl rfl rfl) rfl rfl rfl ?_
                refine sch_end ?_
                simp only [List.set_cons_zero, List.set_cons_succ]
                refine h25 _ _ ?_
                refine wp_cond_false rfl ?_
                refine wp_skip ?_
                refine h20 _ _ ?_
                refine region_quiet [(0, false), (1, false), (2, false)] rfl ?_
                refine sq (v := .int .i64 ((i : Nat) : Int)) rfl (r_move rfl rfl) rfl rfl rfl ?_
                refine sq (v := .int .i64 ((i + 1 : Nat) : Int)) rfl (r_add (z := ((i + 1 : Nat) : Int)) rfl rfl rfl (by omega) (by omega)) rfl rfl rfl ?_
                refine sq (v := .int .i64 ((i + 1 : Nat) : Int)) rfl (r_assign rfl rfl) rfl rfl rfl ?_
                refine sch_end ?_
                simp only [List.set_cons_zero, List.set_cons_succ]
                exact h17 _ _ _ (by omega : (n - (i + 1)) < _) ⟨i + 1, o2, _, _, _, _, _, _, _, _, _, _, _, _, _, _, _, _, _, _, _, _, _, _, _, _, _, _, _, _, _, _, _, _, _, _, _, _, _, _, _, _, _, _, _, _, _, _, _, _, _, _, _, _, _, _, _, _, _, rfl, rfl, (by omega), hS2, (shutS.next hsh hx61 (fun h9 => by omega) (fun h9 => by omega)), x6, ho59, c70⟩
            · refine sq (v := .bool false) rfl (r_eql rfl rfl rfl (decide_eq_false q80)) rfl rfl rfl ?_
              refine sq (v := .bool false) rfl (r_move rfl rfl) rfl rfl rfl ?_
              refine sk rfl rfl rfl rfl rfl ?_
              refine sk rfl rfl rfl rfl rfl ?_
              refine sk rfl rfl rfl rfl rfl ?_
              simp only [List.set_cons_zero, List.set_cons_succ]
              refine sk rfl rfl rfl rfl rfl ?_
              refine sk rfl rfl rfl rfl rfl ?_
              refine sq (v := .bool false) rfl (r_pick rfl rfl rfl) rfl rfl rfl ?_
              refine sch_end ?_
              simp only [List.set_cons_zero, List.set_cons_succ]
              refine h25 _ _ ?_
              refine wp_cond_false rfl ?_
              refine wp_skip ?_
              refine h20 _ _ ?_
              refine region_quiet [(0, false), (1, false), (2, false)] rfl ?_
              refine sq (v := .int .i64 ((i : Nat) : Int)) rfl (r_move rfl rfl) rfl rfl rfl ?_
              refine sq (v := .int .i64 ((i + 1 : Nat) : Int)) rfl (r_add (z := ((i + 1 : Nat) : Int)) rfl rfl rfl (by omega) (by omega)) rfl rfl rfl ?_
              refine sq (v := .int .i64 ((i + 1 : Nat) : Int)) rfl (r_assign rfl rfl) rfl rfl rfl ?_
              refine sch_end ?_
              simp only [List.set_cons_zero, List.set_cons_succ]
              exact h17 _ _ _ (by omega : (n - (i + 1)) < _) ⟨i + 1, o2, _, _, _, _, _, _, _, _, _, _, _, _, _, _, _, _, _, _, _, _, _, _, _, _, _, _, _, _, _, _, _, _, _, _, _, _, _, _, _, _, _, _, _, _, _, _, _, _, _, _, _, _, _, _, _, _, _, rfl, rfl, (by omega), hS2, (shutS.next hsh hx61 (fun h9 => by omega) (fun h9 => by omega)), x6, ho59, c70⟩
        · refine sq (v := .bool false) rfl (r_eql rfl rfl rfl (decide_eq_false q71)) rfl rfl rfl ?_
          refine sq (v := .bool false) rfl (r_move rfl rfl) rfl rfl rfl ?_
          refine sk rfl rfl rfl rfl rfl ?_
          refine sk rfl rfl rfl rfl rfl ?_
          refine sk rfl rfl rfl rfl rfl ?_
          simp only [List.set_cons_zero, List.set_cons_succ]
          refine sk rfl rfl rfl rfl rfl ?_
          refine sk rfl rfl rfl rfl rfl ?_
          refine sq (v := .bool false) rfl (r_pick rfl rfl rfl) rfl rfl rfl ?_
          refine sch_end ?_
          simp only [List.set_cons_zero, List.set_cons_succ]
          refine h23 _ _ ?_
          refine wp_cond_false rfl ?_
          refine wp_skip ?_
          refine h22 _ _ ?_
          refine wp_seq_k (fun K26 h26 => ?_)
          refine region_quiet [(0, false), (1, false), (2, false), (3, false), (4, false), (5, false), (6, false), (7, false), (8, false), (9, false), (10, false), (11, false), (12, false)] rfl ?_
          refine sq (v := .slice (some ⟨g9, 0, none⟩) n0_5 c0_5) rfl (r_move rfl rfl) rfl rfl rfl ?_
          refine sq (v := .int .i64 x60.to) rfl (r_move rfl rfl) rfl rfl rfl ?_
          refine sq (v := .pointer (some ⟨g9, (x60.to).toNat, none⟩)) rfl (r_idx0 (k := (x60.to).toNat) rfl rfl (by show Value.int .i64 x60.to = _; rw [Int.toNat_of_nonneg (by omega)]) (by kernel_rfl) (by omega)) rfl rfl rfl ?_
          refine sq (v := .int .i64 (lab o2 x60.to)) rfl (r_load rfl rfl (by kernel_rfl) (eqS (own_atI ho59 (lab_get (by omega) (by have h9 := hS2.len; omega))))) rfl rfl rfl ?_
          refine sq (v := .int .i64 ((s : Nat) : Int)) rfl (r_move rfl rfl) rfl rfl rfl ?_
          simp only [List.set_cons_zero, List.set_cons_succ]
          by_cases q89 : (lab o2 x60.to : Int) = (((s : Nat) : Int) : Int)
          · refine sq (v := .bool true) rfl (r_eql rfl rfl rfl (decide_eq_true q89)) rfl rfl rfl ?_
            refine sq (v := .bool true) rfl (r_move rfl rfl) rfl rfl rfl ?_
            refine sq (v := .slice (some ⟨g9, 0, none⟩) n0_5 c0_5) rfl (r_move rfl rfl) rfl rfl rfl ?_
            refine sq (v := .int .i64 x60.fr) rfl (r_move rfl rfl) rfl rfl rfl ?_
            refine sq (v := .pointer (some ⟨g9, (x60.fr).toNat, none⟩)) rfl (r_idx0 (k := (x60.fr).toNat) rfl rfl (by show Value.int .i64 x60.fr = _; rw [Int.toNat_of_nonneg (by omega)]) (by kernel_rfl) (by omega)) rfl rfl rfl ?_
            simp only [List.set_cons_zero, List.set_cons_succ]
            refine sq (v := .int .i64 (lab o2 x60.fr)) rfl (r_load rfl rfl (by kernel_rfl) (eqS (own_atI ho59 (lab_get (by omega) (by have h9 := hS2.len; omega))))) rfl rfl rfl ?_
            by_cases q90 : (lab o2 x60.fr : Int) < (0 : Int)
            · refine sq (v := .bool true) rfl (r_lss rfl rfl rfl (decide_eq_true q90)) rfl rfl rfl ?_
              refine sq (v := .bool true) rfl (r_pick rfl rfl rfl) rfl rfl rfl ?_
              refine sch_end ?_
              simp only [List.set_cons_zero, List.set_cons_succ]
              refine h26 _ _ ?_
              refine wp_cond_true rfl ?_
              refine region_plain (row := (Value.ownBlock (.slice (some ⟨g9, 0, none⟩) n0_5 c0_5))) [(0, false), (1, false), (2, false), (3, false), (4, false), (5, true)] rfl ?_
              have s91 := SG.self w56 (Value.ownBlock (.slice (some ⟨g9, 0, none⟩) n0_5 c0_5))
              refine sq (v := .slice (some ⟨g9, 0, none⟩) n0_5 c0_5) rfl (r_move rfl rfl) rfl rfl rfl ?_
              refine sq (v := .int .i64 x60.fr) rfl (r_move rfl rfl) rfl rfl rfl ?_
              refine sq (v := .int .i64 ((s : Nat) : Int)) rfl (r_move rfl rfl) rfl rfl rfl ?_
              refine sq (v := .int .i64 ((s + 1 : Nat) : Int)) rfl (r_add (z := ((s + 1 : Nat) : Int)) rfl rfl rfl (by omega) (by omega)) rfl rfl rfl ?_
              refine sq (v := .pointer (some ⟨g9, (x60.fr).toNat, none⟩)) rfl (r_idx0 (k := (x60.fr).toNat) rfl rfl (by show Value.int .i64 x60.fr = _; rw [Int.toNat_of_nonneg (by omega)]) (by kernel_rfl) (by omega)) rfl rfl rfl ?_
              simp only [List.set_cons_zero, List.set_cons_succ]
              refine ssr (base := w.heap.size) (e := 3) (j := (x60.fr).toNat) (u := .int .i64 ((s + 1 : Nat) : Int)) s91 rfl rfl rfl rfl rfl rfl ho59 (by kernel_rfl) rfl rfl (by omega) (.inl rfl) (fun w92 ho93 g94 s95 => ?_)
              have ho93 := own_setI ho93
              refine sch_end ?_
              have x6 := SG.blk s95 x6 nb0_5_b2
              have c96 := (SG.belowR c70 s95 (fun kq e => (World.ownsRow.lt ho59 kq e).1))
              refine h20 _ _ ?_
              refine region_quiet [(0, false), (1, false), (2, false)] rfl ?_
              refine sq (v := .int .i64 ((i : Nat) : Int)) rfl (r_move rfl rfl) rfl rfl rfl ?_
              refine sq (v := .int .i64 ((i + 1 : Nat) : Int)) rfl (r_add (z := ((i + 1 : Nat) : Int)) rfl rfl rfl (by omega) (by omega)) rfl rfl rfl ?_
              refine sq (v := .int .i64 ((i + 1 : Nat) : Int)) rfl (r_assign rfl rfl) rfl rfl rfl ?_
              refine sch_end ?_
              simp only [List.set_cons_zero, List.set_cons_succ]
              have V97 : Stp (joined ps) m.toNat u s (o2.set ((x60.fr).toNat) ((s + 1 : Nat) : Int)) ∧ (∀ b, 0 ≤ lab o2 b → lab (o2.set ((x60.fr).toNat) ((s + 1 : Nat) : Int)) b = lab o2 b) ∧ lab (o2.set ((x60.fr).toNat) ((s + 1 : Nat) : Int)) x60.fr = (s : Int) + 1 := Stp.label hS2 (by omega) (u := x60.to) (by omega) ⟨x60, List.mem_of_getElem? hx61, .inr ⟨rfl, rfl⟩⟩ (by omega) (by omega)
              exact h17 _ _ _ (by omega : (n - (i + 1)) < _) ⟨i + 1, (o2.set ((x60.fr).toNat) ((s + 1 : Nat) : Int)), _, _, _, _, _, _, _, _, _, _, _, _, _, _, _, _, _, _, _, _, _, _, _, _, _, _, _, _, _, _, _, _, _, _, _, _, _, _, _, _, _, _, _, _, _, _, _, _, _, _, _, _, _, _, _, _, _, rfl, rfl, (by omega), V97.1, (shutS.next (shutS.set hsh (by omega) (by omega) (by have h9 := hS2.len; omega)) hx61 (fun h9 => by have h8 := V97.2.2; have h7 := V97.2.1; first | (have h6 := h7 x60.fr (by omega); omega) | (have h6 := h7 x60.to (by omega); omega) | omega) (fun h9 => by have h8 := V97.2.2; have h7 := V97.2.1; first | (have h6 := h7 x60.fr (by omega); omega) | (have h6 := h7 x60.to (by omega); omega) | omega)), x6, ho93, c96⟩
            · refine sq (v := .bool false) rfl (r_lss rfl rfl rfl (decide_eq_false q90)) rfl rfl rfl ?_
              refine sq (v := .bool false) rfl (r_pick rfl rfl rfl) rfl rfl rfl ?_
              refine sch_end ?_
              simp only [List.set_cons_zero, List.set_cons_succ]
              refine h26 _ _ ?_
              refine wp_cond_false rfl ?_
              refine wp_skip ?_
              refine h20 _ _ ?_
              refine region_quiet [(0, false), (1, false), (2, false)] rfl ?_
              refine sq (v := .int .i64 ((i : Nat) : Int)) rfl (r_move rfl rfl) rfl rfl rfl ?_
              refine sq (v := .int .i64 ((i + 1 : Nat) : Int)) rfl (r_add (z := ((i + 1 : Nat) : Int)) rfl rfl rfl (by omega) (by omega)) rfl rfl rfl ?_
              refine sq (v := .int .i64 ((i + 1 : Nat) : Int)) rfl (r_assign rfl rfl) rfl rfl rfl ?_
              refine sch_end ?_
              simp only [List.set_cons_zero, List.set_cons_succ]
              exact h17 _ _ _ (by omega : (n - (i + 1)) < _) ⟨i + 1, o2, _, _, _, _, _, _, _, _, _, _, _, _, _, _, _, _, _, _, _, _, _, _, _, _, _, _, _, _, _, _, _, _, _, _, _, _, _, _, _, _, _, _, _, _, _, _, _, _, _, _, _, _, _, _, _, _, _, rfl, rfl, (by omega), hS2, (shutS.next hsh hx61 (fun h9 => by omega) (fun h9 => by omega)), x6, ho59, c70⟩
          · refine sq (v := .bool false) rfl (r_eql rfl rfl rfl (decide_eq_false q89)) rfl rfl rfl ?_
            refine sq (v := .bool false) rfl (r_move rfl rfl) rfl rfl rfl ?_
            refine sk rfl rfl rfl rfl rfl ?_
            refine sk rfl rfl rfl rfl rfl ?_
            refine sk rfl rfl rfl rfl rfl ?_
            simp only [List.set_cons_zero, List.set_cons_succ]
            refine sk rfl rfl rfl rfl rfl ?_
            refine sk rfl rfl rfl rfl rfl ?_
            refine sq (v := .bool false) rfl (r_pick rfl rfl rfl) rfl rfl rfl ?_
            refine sch_end ?_
            simp only [List.set_cons_zero, List.set_cons_succ]
            refine h26 _ _ ?_
            refine wp_cond_false rfl ?_
            refine wp_skip ?_
            refine h20 _ _ ?_
            refine region_quiet [(0, false), (1, false), (2, false)] rfl ?_
            refine sq (v := .int .i64 ((i : Nat) : Int)) rfl (r_move rfl rfl) rfl rfl rfl ?_
            refine sq (v := .int .i64 ((i + 1 : Nat) : Int)) rfl (r_add (z := ((i + 1 : Nat) : Int)) rfl rfl rfl (by omega) (by omega)) rfl rfl rfl ?_
            refine sq (v := .int .i64 ((i + 1 : Nat) : Int)) rfl (r_assign rfl rfl) rfl rfl rfl ?_
            refine sch_end ?_
            simp only [List.set_cons_zero, List.set_cons_succ]
            exact h17 _ _ _ (by omega : (n - (i + 1)) < _) ⟨i + 1, o2, _, _, _, _, _, _, _, _, _, _, _, _, _, _, _, _, _, _, _, _, _, _, _, _, _, _, _, _, _, _, _, _, _, _, _, _, _, _, _, _, _, _, _, _, _, _, _, _, _, _, _, _, _, _, _, _, _, rfl, rfl, (by omega), hS2, (shutS.next hsh hx61 (fun h9 => by omega) (fun h9 => by omega)), x6, ho59, c70⟩
      · refine sq (v := .bool false) rfl (r_lss rfl rfl rfl (decide_eq_false q55)) rfl rfl rfl ?_
        simp only [List.set_cons_zero, List.set_cons_succ]
        refine sch_end ?_
        refine h19 _ _ ?_
        refine wp_cond_false rfl ?_
        refine wp_exit ?_
        refine h15 _ _ ?_
        refine region_quiet [(0, false), (1, false), (2, false)] rfl ?_
        refine sq (v := .int .i64 ((s : Nat) : Int)) rfl (r_move rfl rfl) rfl rfl rfl ?_
        refine sq (v := .int .i64 ((s + 1 : Nat) : Int)) rfl (r_add (z := ((s + 1 : Nat) : Int)) rfl rfl rfl (by omega) (by omega)) rfl rfl rfl ?_
        refine sq (v := .int .i64 ((s + 1 : Nat) : Int)) rfl (r_assign rfl rfl) rfl rfl rfl ?_
        refine sch_end ?_
        simp only [List.set_cons_zero, List.set_cons_succ]
        exact h12 _ _ _ (by omega : (m.toNat - (s + 1)) < _) ⟨s + 1, o2, _, _, _, _, _, _, _, _, _, _, _, _, _, _, _, _, _, _, _, _, _, _, _, _, _, _, _, _, _, _, _, _, _, _, _, _, _, _, _, _, _, _, _, _, _, _, _, _, _, _, _, _, _, _, _, _, _, _, _, _, _, _, _, _, rfl, rfl, (by omega), (Stp.next (joined_symm ps) hS2 (by omega) (shutS.all (by have e8 : i = ps.length := (by omega); rw [← e8]; exact hsh))), x6, ho2_5, c54⟩
    · refine sq (v := .bool false) rfl (r_lss rfl rfl rfl (decide_eq_false q53)) rfl rfl rfl ?_
      refine sch_end ?_
      simp only [List.set_cons_zero, List.set_cons_succ]
      refine h14 _ _ ?_
      refine wp_cond_false rfl ?_
      refine wp_exit ?_
      refine h10 _ _ ?_
      refine wp_seq_k (fun K27 h27 => ?_)
      refine region_quiet [(0, false), (1, false)] rfl ?_
      refine sq (v := .slice (some ⟨g9, 0, none⟩) n0_5 c0_5) rfl (r_move rfl rfl) rfl rfl rfl ?_
      refine sq (v := .slice (some ⟨g9, 0, none⟩) n0_5 c0_5) rfl (r_assign rfl rfl) rfl rfl rfl ?_
      refine sch_end ?_
      simp only [List.set_cons_zero, List.set_cons_succ]
      refine h27 _ _ ?_
      refine wp_ret ?_
      try simp only [Exit.then]
      refine ret1 rfl rfl ?_
      have e8 : s = m.toNat := by omega
      subst e8
      have e9 := Stp.fin (joined_symm ps) (joined_in hp) hu hS
      exact ⟨_, _, _, rfl, (by rw [← e9]; exact ho1_5), c52⟩

end Go.Proofs.Ytdlcldaogcbnlaa
