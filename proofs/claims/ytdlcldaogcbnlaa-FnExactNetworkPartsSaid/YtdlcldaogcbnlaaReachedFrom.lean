/- The nodes that are connected with a node: both packages make one list. -/
import Derived.Test.YtdlcldaogcbnlaaReached
import Derived.Test.YtdlcldaogcbnlaaDist
import Derived.Test.YtdlcldaogcbnlaaSch4
namespace Go.Proofs.Ytdlcldaogcbnlaa
open Go.RowKit
set_option linter.unusedVariables false

theorem fin_rd {w w' : World} {A : Option Addr} {n c : Nat} {zs vs : List Int} {b vb : Bool} (how : Rd w' 1 A n (intsV zs)) (hz : zs = vs) (hb : b = vb) (bel : Below w.heap.size w w') :
    ∃ A' d, Ending.returned (.tuple #[.slice A n c, .bool b]) = .returned (.tuple #[.slice A' vs.length d, .bool vb]) ∧ Rd w' 1 A' vs.length (intsV vs) ∧ Below w.heap.size w w' := by
  subst hz hb
  have hl := rd_ints_len how
  subst hl
  exact ⟨_, _, rfl, how, bel⟩
open Classical in
/-- The nodes before k that a node is connected with. -/
noncomputable def nearL (E : Int → Int → Prop) (a : Int) (k : Nat) : List Int := ((List.range k).map (fun i => ((i : Nat) : Int))).filter (fun b => decide (0 ≤ distOf E a b))
theorem nearL_yes {E : Int → Int → Prop} {a : Int} {k : Nat} (h : 0 ≤ distOf E a (k : Int)) : nearL E a (k + 1) = nearL E a k ++ [(k : Int)] := by
  unfold nearL
  rw [List.range_succ, List.map_append, List.filter_append, List.map_cons, List.map_nil, List.filter_cons_of_pos (by simpa using h)]; rfl
theorem nearL_no {E : Int → Int → Prop} {a : Int} {k : Nat} (h : ¬ 0 ≤ distOf E a (k : Int)) : nearL E a (k + 1) = nearL E a k := by
  unfold nearL
  rw [List.range_succ, List.map_append, List.filter_append, List.map_cons, List.map_nil, List.filter_cons_of_neg (by simpa using h), List.filter_nil, List.append_nil]
theorem nearL_all {E : Int → Int → Prop} {m : Nat} (hE : endsIn E m) {a : Int} (ha : 1 ≤ a ∧ a ≤ m) : nearL E a (m + 1) = reachList E m a := by
  refine sorted_ext _ _ (sorted_filter _ (sorted_map_range _ (fun i j h => by omega) _)) (sorted_reachList _ _ _) (fun b => ?_)
  rw [mem_reachList]
  unfold nearL
  rw [List.mem_filter, decide_eq_true_iff, dist_pos]
  constructor
  · exact fun h => ⟨reach_in hE ha h.2, h.2⟩
  · exact fun h => ⟨List.mem_map.2 ⟨b.toNat, List.mem_range.2 (by omega), by omega⟩, h.2⟩
open Classical in
noncomputable def ReachedFrom_v0 (m : Int) (ps : List Pp) (u : Int) : List Int := if (goodN m ps && inB u 1 m) = true then reachList (joined ps) m.toNat u else []
def ReachedFrom_v1 (m : Int) (ps : List Pp) (u : Int) : Bool := goodN m ps && inB u 1 m
theorem ReachedFrom_len (m : Int) (ps : List Pp) (u : Int) : (ReachedFrom_v0 m ps u).length ≤ 1048576 := by
  unfold ReachedFrom_v0
  split
  · rename_i h
    rw [Bool.and_eq_true] at h
    have := good_of h.1
    have h1 := this.hi
    have := reachList_len (joined ps) m.toNat u
    omega
  · simp

set_option maxRecDepth 100000 in
set_option maxHeartbeats 1000000 in
theorem reachedFrom_any (m : Int) (A : Option Addr) (n c : Nat) (ps : List Pp) (u : Int) (w : World) (ha : Rd w 4 A n (pipesV ps)) (hn : n ≤ 1048576) (hp : pipesIn ps m.toNat) (hi0 : ∀ p, p ∈ ps → 1 ≤ p.id) (hm : 1 ≤ m ∧ m ≤ 8) (hu0 : 1 ≤ u ∧ u ≤ m) :
    Calls Try.prog 45 #[.agg #[.int .i64 m, .slice A n c], .int .i64 u] w fun e w' => ∃ A' n' c', e = .returned (.slice A' n' c') ∧ w'.ownsRow w.heap.size 3 1 (.slice A' n' c') n' (intsV (reachList (joined ps) m.toNat u)) ∧ Below w.heap.size w w' := by
  have hl := rd_pipes_len ha
  go_enter Try.func45, Try.ntmps45
  refine wp_seq_k (fun K1 h1 => ?_)
  refine region_plain (row := none) [(0, true), (1, false)] rfl ?_
  have s1 := SG.self w none
  refine sn (fun b => .pointer (some ⟨b, 0, none⟩)) #[.int .i64 m, .slice A n c] 31 s1 rfl rfl rfl (fun _ => by kernel_rfl) (fun b2 w3 hb4 k5 x6 s7 => ?_)
  have lo8 : w.heap.size ≤ b2 := by have := ((SG.belowR (Below.refl _ _) s1 (fun kq e => by cases e))).size; omega
  refine sq (v := .slice none 0 0) rfl (r_assign rfl rfl) rfl rfl rfl ?_
  refine sch_end ?_
  simp only [List.set_cons_zero, List.set_cons_succ]
  have c9 := (SG.belowR (Below.refl _ _) s7 (fun kq e => by cases e))
  refine h1 _ _ ?_
  refine wp_seq_k (fun K2 h2 => ?_)
  refine region_plain (row := none) [(0, true), (1, false)] rfl ?_
  have s10 := SG.self w3 none
  refine sn (fun b => .slice (some ⟨b, 0, none⟩) 0 0) #[] 3 s10 rfl rfl rfl (fun _ => by kernel_rfl) (fun b11 w12 hb13 k14 x15 s16 => ?_)
  have lo17 : w.heap.size ≤ b11 := by have := ((SG.belowR c9 s10 (fun kq e => by cases e))).size; omega
  have ne18 : b2 ≠ b11 := by have := blk_lt x6; have := World.grownBy.size s10; omega
  refine sq (v := .slice (some ⟨b11, 0, none⟩) 0 0) rfl (r_assign rfl rfl) rfl rfl rfl ?_
  refine sch_end ?_
  simp only [List.set_cons_zero, List.set_cons_succ]
  have x6 := SG.blk s16 x6 (by simp)
  have c19 := (SG.belowR c9 s16 (fun kq e => by cases e))
  refine h2 _ _ ?_
  refine wp_seq_k (fun K3 h3 => ?_)
  refine wp_seq_k (fun K4 h4 => ?_)
  refine region_plain (row := none) [(0, false), (1, false), (2, true), (3, false), (4, false)] rfl ?_
  have s20 := SG.self w12 none
  refine sq (v := .agg #[.int .i64 m, .slice A n c]) rfl (r_load2 rfl rfl (by kernel_rfl) (by kernel_rfl) (sgS (blk_cell (j := 0) x6 rfl) (by simp)) (sgS (blk_cell (j := 1) x6 rfl) (by simp))) rfl rfl rfl ?_
  refine sq (v := .int .i64 u) rfl (r_move rfl rfl) rfl rfl rfl ?_
  have z26 := ((SG.belowR c19 s20 (fun kq e => by cases e))).size
  refine sc (vs := [.agg #[.int .i64 m, .slice A n c], .int .i64 u, .int .i64 0]) rfl rfl rfl (by kernel_rfl) rfl rfl (distances_any m A n c ps u 0 _ (Rd.kept ha (SG.belowR c19 s20 (fun kq e => by cases e))) (by omega) hp (by omega) (by omega)) ?_
  rintro e w29 ⟨A21, n22, c23, rfl, ho24, b28⟩
  have s30 := SG.of_below s20 b28
  refine ⟨_, rfl, s30, ?_⟩
  have ho25 := own_base (base' := w.heap.size) ho24 z26
  have hlr27 := rd_ints_len (own_rd ho25)
  rw [distList_len] at hlr27
  have nb31 : Nb b2 (.slice A21 n22 c23) := nb_lo ho24 (Nat.lt_of_lt_of_le (blk_lt x6) (World.grownBy.size s20))
  have nb32 : Nb b11 (.slice A21 n22 c23) := nb_lo ho24 (Nat.lt_of_lt_of_le (blk_lt x15) (World.grownBy.size s20))
  obtain ⟨g33, rfl, _, _⟩ := own_addr ho25 (by omega)
  refine sq (v := .int .i64 ((n22 : Nat) : Int)) rfl (r_len rfl rfl (by kernel_rfl)) rfl rfl rfl ?_
  refine sq (v := .int .i64 0) rfl (r_move rfl rfl) rfl rfl rfl ?_
  simp only [List.set_cons_zero, List.set_cons_succ]
  refine sch_end ?_
  have x6 := SG.blk s30 x6 (by simp)
  have x15 := SG.blk s30 x15 (by simp)
  have c34 := (SG.belowR c19 s30 (fun kq e => by cases e))
  refine h4 _ _ ?_
  refine wp_block ?_
  have ho35 := own_empty (base := w.heap.size) (size := 1) x15 lo17
  replace ho35 : World.ownsRow _ _ _ _ _ _ (intsV []) := ho35
  have nr36 : NbR (.slice (some ⟨b11, 0, none⟩) 0 0) (.slice (some ⟨g33, 0, none⟩) n22 c23) := nbr_new nb32
  have nb37 : Nb b2 (.slice (some ⟨b11, 0, none⟩) 0 0) := nb_new (by have := ne18; omega)
  refine loopK (fun am0 aa0 wl0 => ∃ (i : Nat) (A0_5 : Option Addr) (n0_5 : Nat) (c0_5 : Nat) (u0_6 u0_7 u0_14 u0_15 u0_16 u0_17 u0_18 u0_19 u0_20 u0_21 u0_22 u0_23 u0_24 : Value), aa0 = ⟨[.agg #[.int .i64 m, .slice A n c], .int .i64 u, .pointer (some ⟨b2, 0, none⟩), undef, .slice none 0 0, .slice A0_5 n0_5 c0_5, u0_6, u0_7, .slice (some ⟨b11, 0, none⟩) 0 0, .agg #[.int .i64 m, .slice A n c], .int .i64 u, .slice (some ⟨g33, 0, none⟩) n22 c23, .int .i64 ((n22 : Nat) : Int), .int .i64 ((i : Nat) : Int), u0_14, u0_15, u0_16, u0_17, u0_18, u0_19, u0_20, u0_21, u0_22, u0_23, u0_24, undef].toArray, []⟩ ∧ (am0 = m.toNat + 1 - i) ∧ (i ≤ m.toNat + 1) ∧ (n0_5 ≤ i) ∧ (wl0.heap[b2]? = some (.cells #[.int .i64 m, .slice A n c] 31 (0, 0))) ∧ (wl0.ownsRow w.heap.size 3 1 (.slice A0_5 n0_5 c0_5) n0_5 (intsV (nearL (joined (without ps 0)) u i))) ∧ (Nb b2 (.slice A0_5 n0_5 c0_5)) ∧ (wl0.ownsRow w.heap.size 3 1 (.slice (some ⟨g33, 0, none⟩) n22 c23) n22 (intsV (distList (joined (without ps 0)) m.toNat u))) ∧ (NbR (.slice (some ⟨g33, 0, none⟩) n22 c23) (.slice A0_5 n0_5 c0_5)) ∧ (Below w.heap.size w wl0)) (m.toNat + 1 - 0) ?_ ?_
  · exact ⟨0, (some ⟨b11, 0, none⟩), 0, 0, _, _, _, _, _, _, _, _, _, _, _, _, _, rfl, rfl, (Nat.zero_le _), (Nat.zero_le _), x6, ho35, nb37, ho25, (NbR.symm nr36), c34⟩
  rintro am0 aa0 wl0 K5 h5 ⟨i, A0_5, n0_5, c0_5, u0_6, u0_7, u0_14, u0_15, u0_16, u0_17, u0_18, u0_19, u0_20, u0_21, u0_22, u0_23, u0_24, rfl, rfl, hi, hb5, x6, ho0_5, nb0_5_b2, ho0_11, nr0_1_0, c38⟩
  refine wp_seq_k (fun K6 h6 => ?_)
  refine region_quiet [(0, false)] rfl ?_
  by_cases q39 : (((i : Nat) : Int) : Int) < (((n22 : Nat) : Int) : Int)
  · refine sq (v := .bool true) rfl (r_lss rfl rfl rfl (decide_eq_true q39)) rfl rfl rfl ?_
    refine sch_end ?_
    simp only [List.set_cons_zero, List.set_cons_succ]
    refine h6 _ _ ?_
    refine wp_seq_k (fun K7 h7 => ?_)
    refine wp_cond_true rfl ?_
    refine wp_skip ?_
    refine h7 _ _ ?_
    refine wp_seq_k (fun K8 h8 => ?_)
    refine wp_block ?_
    refine wp_seq_k (fun K9 h9 => ?_)
    refine region_quiet [(0, false), (1, false), (2, false), (3, false), (4, false)] rfl ?_
    refine sq (v := .int .i64 ((i : Nat) : Int)) rfl (r_move rfl rfl) rfl rfl rfl ?_
    refine sq (v := .pointer (some ⟨g33, i, none⟩)) rfl (r_idx0 (k := i) rfl rfl rfl (by kernel_rfl) (by omega)) rfl rfl rfl ?_
    refine sq (v := .int .i64 (distOf (joined (without ps 0)) u ((i : Nat) : Int))) rfl (r_load rfl rfl (by kernel_rfl) (eqS (own_atI ho0_11 (distList_at (joined (without ps 0)) m.toNat u (by omega))))) rfl rfl rfl ?_
    refine sq (v := .int .i64 ((i : Nat) : Int)) rfl (r_assign rfl rfl) rfl rfl rfl ?_
    refine sq (v := .int .i64 (distOf (joined (without ps 0)) u ((i : Nat) : Int))) rfl (r_assign rfl rfl) rfl rfl rfl ?_
    simp only [List.set_cons_zero, List.set_cons_succ]
    refine sch_end ?_
    refine h9 _ _ ?_
    refine wp_seq_k (fun K10 h10 => ?_)
    refine region_quiet [(0, false), (1, false)] rfl ?_
    refine sq (v := .int .i64 (distOf (joined (without ps 0)) u ((i : Nat) : Int))) rfl (r_move rfl rfl) rfl rfl rfl ?_
    by_cases q40 : (distOf (joined (without ps 0)) u ((i : Nat) : Int) : Int) ≥ (0 : Int)
    · refine sq (v := .bool true) rfl (r_geq rfl rfl rfl (decide_eq_true q40)) rfl rfl rfl ?_
      refine sch_end ?_
      simp only [List.set_cons_zero, List.set_cons_succ]
      refine h10 _ _ ?_
      refine wp_cond_true rfl ?_
      refine region_plain (row := (Value.ownBlock (.slice A0_5 n0_5 c0_5))) [(0, false), (1, false), (2, true), (3, true), (4, false)] rfl ?_
      have s41 := SG.self wl0 (Value.ownBlock (.slice A0_5 n0_5 c0_5))
      refine sq (v := .slice A0_5 n0_5 c0_5) rfl (r_move rfl rfl) rfl rfl rfl ?_
      refine sq (v := .int .i64 ((i : Nat) : Int)) rfl (r_move rfl rfl) rfl rfl rfl ?_
      refine sn (fun b => .slice (some ⟨b, 0, none⟩) 1 1) #[.int .i64 ((i : Nat) : Int)] 3 s41 rfl rfl rfl (fun _ => by kernel_rfl) (fun b42 w43 hb44 k45 x46 s47 => ?_)
      have lo48 : w.heap.size ≤ b42 := by have := ((SG.belowR c38 s41 (fun kq e => (World.ownsRow.lt ho0_5 kq e).1))).size; omega
      have ne49 : b2 ≠ b42 := by have := blk_lt x6; have := World.grownBy.size s41; omega
      have nb50 : Nb b42 (.slice (some ⟨g33, 0, none⟩) n22 c23) := nb_hi ho0_11 (Nat.le_of_eq hb44)
      have nb51 : Nb b42 (.slice A0_5 n0_5 c0_5) := nb_hi ho0_5 (Nat.le_of_eq hb44)
      have ho52 := own_kept ho0_11 k45
      have ho53 := own_kept ho0_5 k45
      refine sap (e := 3) (size := 1) (base := w.heap.size) (m := 1) s47 rfl rfl rfl rfl rfl rfl (by kernel_rfl) ho53 x46 rfl rfl (by omega) (by omega) (by have := ((SG.belowR c38 s47 (fun kq e => (World.ownsRow.lt ho0_5 kq e).1))).size; omega) (.inl rfl) (fun g54 cap55 w56 ho57 hg58 hat59 hlt60 s61 => ?_)
      have nb62 : Nb b2 (.slice (some ⟨g54, 0, none⟩) (n0_5 + 1) cap55) := nb_app nb0_5_b2 (Nat.lt_of_lt_of_le (blk_lt x6) (World.grownBy.size s47)) hat59
      have nb63 : Nb b42 (.slice (some ⟨g54, 0, none⟩) (n0_5 + 1) cap55) := nb_app nb51 (blk_lt x46) hat59
      have x46 := (hg58.block _ (blk_lt x46) nb51).trans x46
      have ho57 := own_snoc ho57
      have nr64 : NbR (.slice (some ⟨g54, 0, none⟩) (n0_5 + 1) cap55) (.slice (some ⟨g33, 0, none⟩) n22 c23) := nbr_app (NbR.symm nr0_1_0) (fun j h => (World.ownsRow.lt ho52 j h).2) (hat3 (v := .slice A0_5 n0_5 c0_5) hat59)
      have ho65 := own_grown ho52 hg58 nr0_1_0
      refine sq (v := .slice (some ⟨g54, 0, none⟩) (n0_5 + 1) cap55) rfl (r_assign rfl rfl) rfl rfl rfl ?_
      simp only [List.set_cons_zero, List.set_cons_succ]
      refine sch_end ?_
      have x6 := SG.blk s61 x6 nb0_5_b2
      have c66 := (SG.belowR c38 s61 (fun kq e => (World.ownsRow.lt ho0_5 kq e).1))
      refine h8 _ _ ?_
      refine region_quiet [(0, false), (1, false)] rfl ?_
      refine sq (v := .int .i64 ((i + 1 : Nat) : Int)) rfl (r_add (z := ((i + 1 : Nat) : Int)) rfl rfl rfl (by omega) (by omega)) rfl rfl rfl ?_
      refine sq (v := .int .i64 ((i + 1 : Nat) : Int)) rfl (r_move rfl rfl) rfl rfl rfl ?_
      refine sch_end ?_
      simp only [List.set_cons_zero, List.set_cons_succ]
      exact h5 _ _ _ (by omega : (m.toNat + 1 - (i + 1)) < _) ⟨i + 1, (some ⟨g54, 0, none⟩), (n0_5 + 1), cap55, _, _, _, _, _, _, _, _, _, _, _, _, _, rfl, rfl, (by omega), (by omega), x6, (by rw [nearL_yes (by omega)]; exact ho57), nb62, ho65, (NbR.symm nr64), c66⟩
    · refine sq (v := .bool false) rfl (r_geq rfl rfl rfl (decide_eq_false q40)) rfl rfl rfl ?_
      refine sch_end ?_
      simp only [List.set_cons_zero, List.set_cons_succ]
      refine h10 _ _ ?_
      refine wp_cond_false rfl ?_
      refine wp_skip ?_
      refine h8 _ _ ?_
      refine region_quiet [(0, false), (1, false)] rfl ?_
      refine sq (v := .int .i64 ((i + 1 : Nat) : Int)) rfl (r_add (z := ((i + 1 : Nat) : Int)) rfl rfl rfl (by omega) (by omega)) rfl rfl rfl ?_
      refine sq (v := .int .i64 ((i + 1 : Nat) : Int)) rfl (r_move rfl rfl) rfl rfl rfl ?_
      refine sch_end ?_
      simp only [List.set_cons_zero, List.set_cons_succ]
      exact h5 _ _ _ (by omega : (m.toNat + 1 - (i + 1)) < _) ⟨i + 1, A0_5, n0_5, c0_5, _, _, _, _, _, _, _, _, _, _, _, _, _, rfl, rfl, (by omega), (by omega), x6, (by rw [nearL_no (by omega)]; exact ho0_5), nb0_5_b2, ho0_11, nr0_1_0, c38⟩
  · refine sq (v := .bool false) rfl (r_lss rfl rfl rfl (decide_eq_false q39)) rfl rfl rfl ?_
    refine sch_end ?_
    simp only [List.set_cons_zero, List.set_cons_succ]
    refine h6 _ _ ?_
    refine wp_seq_k (fun K11 h11 => ?_)
    refine wp_cond_false rfl ?_
    refine wp_exit ?_
    refine h3 _ _ ?_
    refine wp_seq_k (fun K12 h12 => ?_)
    refine region_quiet [(0, false), (1, false)] rfl ?_
    refine sq (v := .slice A0_5 n0_5 c0_5) rfl (r_move rfl rfl) rfl rfl rfl ?_
    refine sq (v := .slice A0_5 n0_5 c0_5) rfl (r_assign rfl rfl) rfl rfl rfl ?_
    refine sch_end ?_
    simp only [List.set_cons_zero, List.set_cons_succ]
    refine h12 _ _ ?_
    refine wp_ret ?_
    try simp only [Exit.then]
    refine ret1 rfl rfl ?_
    have e9 : nearL (joined (without ps 0)) u i = reachList (joined ps) m.toNat u := by rw [show i = m.toNat + 1 by omega, nearL_all (joined_in (pipesIn_without hp 0)) (by omega), without_none (fun p h9 => by have := hi0 p h9; omega)]
    exact ⟨_, _, _, rfl, (by rw [← e9]; exact ho0_5), c38⟩

set_option maxRecDepth 100000 in
set_option maxHeartbeats 1000000 in
theorem ReachedFrom_spec (m : Int) (A : Option Addr) (n c : Nat) (ps : List Pp) (u : Int) (w : World) (ha : Rd w 4 A n (pipesV ps)) (hn : n ≤ 1048576) :
    Calls Try.prog 23 #[.agg #[.int .i64 m, .slice A n c], .int .i64 u] w fun e w' => ∃ A' d, e = .returned (.tuple #[.slice A' (ReachedFrom_v0 m ps u).length d, .bool (ReachedFrom_v1 m ps u)]) ∧ Rd w' 1 A' (ReachedFrom_v0 m ps u).length (intsV (ReachedFrom_v0 m ps u)) ∧ Below w.heap.size w w' := by
  have hl := rd_pipes_len ha
  go_enter Try.func23, Try.ntmps23
  refine wp_seq_k (fun K1 h1 => ?_)
  refine region_plain (row := none) [(0, true), (1, false), (2, false)] rfl ?_
  have s1 := SG.self w none
  refine sn (fun b => .pointer (some ⟨b, 0, none⟩)) #[.int .i64 m, .slice A n c] 31 s1 rfl rfl rfl (fun _ => by kernel_rfl) (fun b2 w3 hb4 k5 x6 s7 => ?_)
  have lo8 : w.heap.size ≤ b2 := by have := ((SG.belowR (Below.refl _ _) s1 (fun kq e => by cases e))).size; omega
  refine sq (v := .slice none 0 0) rfl (r_assign rfl rfl) rfl rfl rfl ?_
  refine sq (v := .bool false) rfl (r_assign rfl rfl) rfl rfl rfl ?_
  refine sch_end ?_
  simp only [List.set_cons_zero, List.set_cons_succ]
  have c9 := (SG.belowR (Below.refl _ _) s7 (fun kq e => by cases e))
  refine h1 _ _ ?_
  refine wp_seq_k (fun K2 h2 => ?_)
  refine wp_seq_k (fun K3 h3 => ?_)
  refine region_plain (row := none) [(0, false), (1, false), (2, true), (3, false)] rfl ?_
  have s10 := SG.self w3 none
  refine sq (v := .agg #[.int .i64 m, .slice A n c]) rfl (r_load2 rfl rfl (by kernel_rfl) (by kernel_rfl) (sgS (blk_cell (j := 0) x6 rfl) (by simp)) (sgS (blk_cell (j := 1) x6 rfl) (by simp))) rfl rfl rfl ?_
  refine sq (v := .int .i64 u) rfl (r_move rfl rfl) rfl rfl rfl ?_
  refine sc (vs := [.agg #[.int .i64 m, .slice A n c], .int .i64 u]) rfl rfl rfl (by kernel_rfl) rfl rfl (l2Node_any m A n c ps u _ (Rd.kept ha (SG.belowR c9 s10 (fun kq e => by cases e))) (by omega)) ?_
  rintro e w12 ⟨rfl, b11⟩
  have s13 := SG.of_below s10 b11
  refine ⟨_, rfl, s13, ?_⟩
  rcases Bool.eq_false_or_eq_true (goodN m ps && inB u 1 m) with q14 | q14
  · rw [q14]
    have hq9 := Bool.and_eq_true_iff.1 q14
    have hg := good_of hq9.1
    have hgl := hg.lo
    have hgh := hg.hi
    have hp := hg.pipesIn
    have hi0 := fun p (h9 : p ∈ ps) => (hg.pipe h9).1.1
    have hu9 := inB_iff.1 hq9.2
    refine sq (v := .bool false) rfl (r_not rfl rfl rfl) rfl rfl rfl ?_
    refine sch_end ?_
    simp only [List.set_cons_zero, List.set_cons_succ]
    have x6 := SG.blk s13 x6 (by simp)
    have c15 := (SG.belowR c9 s13 (fun kq e => by cases e))
    refine h3 _ _ ?_
    refine wp_cond_false rfl ?_
    refine wp_skip ?_
    refine h2 _ _ ?_
    refine wp_seq_k (fun K4 h4 => ?_)
    refine region_plain (row := none) [(0, false), (1, false), (2, true), (3, false), (4, false)] rfl ?_
    have s16 := SG.self w12 none
    refine sq (v := .agg #[.int .i64 m, .slice A n c]) rfl (r_load2 rfl rfl (by kernel_rfl) (by kernel_rfl) (sgS (blk_cell (j := 0) x6 rfl) (by simp)) (sgS (blk_cell (j := 1) x6 rfl) (by simp))) rfl rfl rfl ?_
    refine sq (v := .int .i64 u) rfl (r_move rfl rfl) rfl rfl rfl ?_
    refine sc (vs := [.agg #[.int .i64 m, .slice A n c], .int .i64 u]) rfl rfl rfl (by kernel_rfl) rfl rfl (l2Reached_any m A n c ps u _ (Rd.kept ha (SG.belowR c15 s16 (fun kq e => by cases e))) (by omega) hp (by omega) (by omega)) ?_
    rintro e w25 ⟨A17, n18, c19, rfl, rd20, fm21, b24⟩
    have s26 := SG.of_below s16 b24
    refine ⟨_, rfl, s26, ?_⟩
    have hl22 := rd_ints_len rd20
    have h9 := reachList_len (joined ps) m.toNat u
    refine sq (v := .slice A17 n18 c19) rfl (r_assign rfl rfl) rfl rfl rfl ?_
    refine sq (v := .bool true) rfl (r_assign rfl rfl) rfl rfl rfl ?_
    simp only [List.set_cons_zero, List.set_cons_succ]
    refine sch_end ?_
    have x6 := SG.blk s26 x6 (by simp)
    have c27 := (SG.belowR c15 s26 (fun kq e => by cases e))
    refine h4 _ _ ?_
    refine wp_ret ?_
    try simp only [Exit.then]
    refine ret2 rfl rfl rfl ?_
    exact fin_rd rd20 (by unfold ReachedFrom_v0; rw [if_pos q14]) (by unfold ReachedFrom_v1; exact q14.symm) c27
  · rw [q14]
    refine sq (v := .bool true) rfl (r_not rfl rfl rfl) rfl rfl rfl ?_
    refine sch_end ?_
    simp only [List.set_cons_zero, List.set_cons_succ]
    have x6 := SG.blk s13 x6 (by simp)
    have c28 := (SG.belowR c9 s13 (fun kq e => by cases e))
    refine h3 _ _ ?_
    refine wp_cond_true rfl ?_
    refine wp_seq_k (fun K5 h5 => ?_)
    refine region_plain (row := none) [(0, true), (1, false), (2, false)] rfl ?_
    have s29 := SG.self w12 none
    refine sn (fun b => .slice (some ⟨b, 0, none⟩) 0 0) #[] 3 s29 rfl rfl rfl (fun _ => by kernel_rfl) (fun b30 w31 hb32 k33 x34 s35 => ?_)
    have lo36 : w.heap.size ≤ b30 := by have := ((SG.belowR c28 s29 (fun kq e => by cases e))).size; omega
    have ne37 : b2 ≠ b30 := by have := blk_lt x6; have := World.grownBy.size s29; omega
    refine sq (v := .slice (some ⟨b30, 0, none⟩) 0 0) rfl (r_assign rfl rfl) rfl rfl rfl ?_
    refine sq (v := .bool false) rfl (r_assign rfl rfl) rfl rfl rfl ?_
    refine sch_end ?_
    simp only [List.set_cons_zero, List.set_cons_succ]
    have x6 := SG.blk s35 x6 (by simp)
    have c38 := (SG.belowR c28 s35 (fun kq e => by cases e))
    refine h5 _ _ ?_
    refine wp_ret ?_
    try simp only [Exit.then]
    refine ret2 rfl rfl rfl ?_
    have ho39 := own_empty (base := w.heap.size) (size := 1) x34 lo36
    replace ho39 : World.ownsRow _ _ _ _ _ _ (intsV []) := ho39
    have nb40 : Nb b2 (.slice (some ⟨b30, 0, none⟩) 0 0) := nb_new (by have := ne37; omega)
    exact fin_rd (zs := []) (own_rd ho39) (by unfold ReachedFrom_v0; rw [if_neg (by rw [q14]; simp)]) (by unfold ReachedFrom_v1; exact q14.symm) c38

set_option maxRecDepth 100000 in
set_option maxHeartbeats 1000000 in
theorem ReachedFrom_impl (m : Int) (A : Option Addr) (n c : Nat) (ps : List Pp) (u : Int) (w : World) (ha : Rd w 4 A n (pipesV ps)) (hn : n ≤ 1048576) :
    Calls Try.prog 18 #[.agg #[.int .i64 m, .slice A n c], .int .i64 u] w fun e w' => ∃ A' d, e = .returned (.tuple #[.slice A' (ReachedFrom_v0 m ps u).length d, .bool (ReachedFrom_v1 m ps u)]) ∧ w'.ownsRow w.heap.size 3 1 (.slice A' (ReachedFrom_v0 m ps u).length d) (ReachedFrom_v0 m ps u).length (intsV (ReachedFrom_v0 m ps u)) ∧ Below w.heap.size w w' := by
  have hl := rd_pipes_len ha
  go_enter Try.func18, Try.ntmps18
  refine wp_seq_k (fun K1 h1 => ?_)
  refine region_plain (row := none) [(0, true), (1, false), (2, false)] rfl ?_
  have s1 := SG.self w none
  refine sn (fun b => .pointer (some ⟨b, 0, none⟩)) #[.int .i64 m, .slice A n c] 31 s1 rfl rfl rfl (fun _ => by kernel_rfl) (fun b2 w3 hb4 k5 x6 s7 => ?_)
  have lo8 : w.heap.size ≤ b2 := by have := ((SG.belowR (Below.refl _ _) s1 (fun kq e => by cases e))).size; omega
  refine sq (v := .slice none 0 0) rfl (r_assign rfl rfl) rfl rfl rfl ?_
  refine sq (v := .bool false) rfl (r_assign rfl rfl) rfl rfl rfl ?_
  refine sch_end ?_
  simp only [List.set_cons_zero, List.set_cons_succ]
  have c9 := (SG.belowR (Below.refl _ _) s7 (fun kq e => by cases e))
  refine h1 _ _ ?_
  refine wp_seq_k (fun K2 h2 => ?_)
  refine wp_seq_k (fun K3 h3 => ?_)
  refine region_plain (row := none) [(0, false), (1, false), (2, true), (3, false)] rfl ?_
  have s10 := SG.self w3 none
  refine sq (v := .agg #[.int .i64 m, .slice A n c]) rfl (r_load2 rfl rfl (by kernel_rfl) (by kernel_rfl) (sgS (blk_cell (j := 0) x6 rfl) (by simp)) (sgS (blk_cell (j := 1) x6 rfl) (by simp))) rfl rfl rfl ?_
  refine sq (v := .int .i64 u) rfl (r_move rfl rfl) rfl rfl rfl ?_
  refine sc (vs := [.agg #[.int .i64 m, .slice A n c], .int .i64 u]) rfl rfl rfl (by kernel_rfl) rfl rfl (hasNode_any m A n c ps u _ (Rd.kept ha (SG.belowR c9 s10 (fun kq e => by cases e))) (by omega)) ?_
  rintro e w12 ⟨rfl, b11⟩
  have s13 := SG.of_below s10 b11
  refine ⟨_, rfl, s13, ?_⟩
  rcases Bool.eq_false_or_eq_true (goodN m ps && inB u 1 m) with q14 | q14
  · rw [q14]
    have hq9 := Bool.and_eq_true_iff.1 q14
    have hg := good_of hq9.1
    have hgl := hg.lo
    have hgh := hg.hi
    have hp := hg.pipesIn
    have hi0 := fun p (h9 : p ∈ ps) => (hg.pipe h9).1.1
    have hu9 := inB_iff.1 hq9.2
    refine sq (v := .bool false) rfl (r_not rfl rfl rfl) rfl rfl rfl ?_
    refine sch_end ?_
    simp only [List.set_cons_zero, List.set_cons_succ]
    have x6 := SG.blk s13 x6 (by simp)
    have c15 := (SG.belowR c9 s13 (fun kq e => by cases e))
    refine h3 _ _ ?_
    refine wp_cond_false rfl ?_
    refine wp_skip ?_
    refine h2 _ _ ?_
    refine wp_seq_k (fun K4 h4 => ?_)
    refine region_plain (row := none) [(0, false), (1, false), (2, true), (3, false), (4, false)] rfl ?_
    have s16 := SG.self w12 none
    refine sq (v := .agg #[.int .i64 m, .slice A n c]) rfl (r_load2 rfl rfl (by kernel_rfl) (by kernel_rfl) (sgS (blk_cell (j := 0) x6 rfl) (by simp)) (sgS (blk_cell (j := 1) x6 rfl) (by simp))) rfl rfl rfl ?_
    refine sq (v := .int .i64 u) rfl (r_move rfl rfl) rfl rfl rfl ?_
    have z22 := ((SG.belowR c15 s16 (fun kq e => by cases e))).size
    refine sc (vs := [.agg #[.int .i64 m, .slice A n c], .int .i64 u]) rfl rfl rfl (by kernel_rfl) rfl rfl (reachedFrom_any m A n c ps u _ (Rd.kept ha (SG.belowR c15 s16 (fun kq e => by cases e))) (by omega) hp hi0 (by omega) (by omega)) ?_
    rintro e w25 ⟨A17, n18, c19, rfl, ho20, b24⟩
    have s26 := SG.of_below s16 b24
    refine ⟨_, rfl, s26, ?_⟩
    have ho21 := own_base (base' := w.heap.size) ho20 z22
    have hlr23 := rd_ints_len (own_rd ho21)
    have nb27 : Nb b2 (.slice A17 n18 c19) := nb_lo ho20 (Nat.lt_of_lt_of_le (blk_lt x6) (World.grownBy.size s16))
    refine sq (v := .slice A17 n18 c19) rfl (r_assign rfl rfl) rfl rfl rfl ?_
    refine sq (v := .bool true) rfl (r_assign rfl rfl) rfl rfl rfl ?_
    simp only [List.set_cons_zero, List.set_cons_succ]
    refine sch_end ?_
    have x6 := SG.blk s26 x6 (by simp)
    have c28 := (SG.belowR c15 s26 (fun kq e => by cases e))
    refine h4 _ _ ?_
    refine wp_ret ?_
    try simp only [Exit.then]
    refine ret2 rfl rfl rfl ?_
    exact fin_ints  ho21 (by unfold ReachedFrom_v0; rw [if_pos q14]) (by unfold ReachedFrom_v1; exact q14.symm) c28
  · rw [q14]
    refine sq (v := .bool true) rfl (r_not rfl rfl rfl) rfl rfl rfl ?_
    refine sch_end ?_
    simp only [List.set_cons_zero, List.set_cons_succ]
    have x6 := SG.blk s13 x6 (by simp)
    have c29 := (SG.belowR c9 s13 (fun kq e => by cases e))
    refine h3 _ _ ?_
    refine wp_cond_true rfl ?_
    refine wp_seq_k (fun K5 h5 => ?_)
    refine region_quiet [(0, false), (1, false)] rfl ?_
    refine sq (v := .slice none 0 0) rfl (r_assign rfl rfl) rfl rfl rfl ?_
    refine sq (v := .bool false) rfl (r_assign rfl rfl) rfl rfl rfl ?_
    refine sch_end ?_
    simp only [List.set_cons_zero, List.set_cons_succ]
    refine h5 _ _ ?_
    refine wp_ret ?_
    try simp only [Exit.then]
    refine ret2 rfl rfl rfl ?_
    exact fin_ints (zs := []) (World.ownsRow_nil _ _ _ _) (by unfold ReachedFrom_v0; rw [if_neg (by rw [q14]; simp)]) (by unfold ReachedFrom_v1; exact q14.symm) c29

end Go.Proofs.Ytdlcldaogcbnlaa
