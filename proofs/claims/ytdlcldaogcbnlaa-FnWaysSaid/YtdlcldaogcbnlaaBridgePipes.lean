/- The pipes without which their ends are not connected. -/
import Derived.Test.YtdlcldaogcbnlaaReachedFrom
import Derived.Test.YtdlcldaogcbnlaaWithout
namespace Go.Proofs.Ytdlcldaogcbnlaa
open Go.RowKit
set_option linter.unusedVariables false

theorem without_len (ps : List Pp) (id : Int) : (without ps id).length ≤ ps.length := by unfold without; exact List.length_filter_le _ _
theorem dist_get {E : Int → Int → Prop} {m : Nat} {a b : Int} (h0 : 0 ≤ b) (h1 : b ≤ m) : (distList E m a)[b.toNat]? = some (distOf E a b) := by
  rw [distList_at E m a (by omega), Int.toNat_of_nonneg h0]
open Classical in
noncomputable def brL (all ps : List Pp) : List Int := (ps.filter (fun p => decide (¬ Reach (joined (without all p.id)) p.fr p.to))).map Pp.id
theorem brL_len (all ps : List Pp) : (brL all ps).length ≤ ps.length := by unfold brL; rw [List.length_map]; exact List.length_filter_le _ _
theorem brL_yes {all ps : List Pp} {k : Nat} {x : Pp} (hx : ps[k]? = some x) (h : ¬ Reach (joined (without all x.id)) x.fr x.to) : brL all (ps.take (k + 1)) = brL all (ps.take k) ++ [x.id] := by
  unfold brL
  rw [List.take_add_one, hx, Option.toList_some, List.filter_append, List.map_append, List.filter_cons_of_pos (by simpa using h)]; rfl
theorem brL_no {all ps : List Pp} {k : Nat} {x : Pp} (hx : ps[k]? = some x) (h : Reach (joined (without all x.id)) x.fr x.to) : brL all (ps.take (k + 1)) = brL all (ps.take k) := by
  unfold brL
  rw [List.take_add_one, hx, Option.toList_some, List.filter_append, List.filter_cons_of_neg (by simpa using h)]; simp
theorem brL_all {all ps : List Pp} {n k : Nat} (hl : ps.length = n) (hk : n ≤ k) : brL all (ps.take k) = brL all ps := by rw [List.take_of_length_le (by omega)]
theorem reach_has {E : Int → Int → Prop} {m : Nat} {a b : Int} (hb : 1 ≤ b ∧ b ≤ m) : (reachList E m a).contains b = true ↔ Reach E a b := by
  rw [List.contains_iff_mem, mem_reachList]; exact ⟨fun h => h.2, fun h => ⟨hb, h⟩⟩
noncomputable def BridgePipes_v0 (m : Int) (ps : List Pp) : List Int := if goodN m ps = true then brL ps ps else []
def BridgePipes_v1 (m : Int) (ps : List Pp) : Bool := goodN m ps
theorem BridgePipes_len (m : Int) (ps : List Pp) : (BridgePipes_v0 m ps).length ≤ 1048576 := by
  unfold BridgePipes_v0
  split
  · rename_i h
    have := (good_of h).len
    have := brL_len ps ps
    omega
  · simp

set_option maxRecDepth 100000 in
set_option maxHeartbeats 1000000 in
theorem BridgePipes_spec (m : Int) (A : Option Addr) (n c : Nat) (ps : List Pp) (w : World) (ha : Rd w 4 A n (pipesV ps)) (hn : n ≤ 1048576) (hf : Fm A n c) :
    Calls Try.prog 29 #[.agg #[.int .i64 m, .slice A n c]] w fun e w' => ∃ A' d, e = .returned (.tuple #[.slice A' (BridgePipes_v0 m ps).length d, .bool (BridgePipes_v1 m ps)]) ∧ w'.ownsRow w.heap.size 3 1 (.slice A' (BridgePipes_v0 m ps).length d) (BridgePipes_v0 m ps).length (intsV (BridgePipes_v0 m ps)) ∧ Below w.heap.size w w' := by
  have hl := rd_pipes_len ha
  go_enter Try.func29, Try.ntmps29
  refine wp_seq_k (fun K1 h1 => ?_)
  refine region_plain (row := none) [(0, true), (1, false), (2, false)] rfl ?_
  have s1 := SG.self w none
  refine sn (fun b => .pointer (some ⟨b, 0, none⟩)) #[.int .i64 m, .slice A n c] 31 s1 rfl rfl rfl (fun _ => by kernel_rfl) (fun b2 w3 hb4 k5 x6 s7 => ?_)
  have lo8 : w.heap.size ≤ b2 := by have := ((SG.belowR (Below.refl _ _) s1 (fun kq e => by cases e))).size; omega
  refine sq (v := .slice none 0 0) rfl (r_assign rfl rfl) rfl rfl rfl ?_
  refine sq (v := .bool false) rfl (r_assign rfl rfl) rfl rfl rfl ?_
  refine sch_end ?_
  simp only [List.set_cons_zero, List.set_cons_succ]
  have c9 := (SG.belowR (Below.refl _ _) s7 (fun kq e => by cases e))
  refine h1 _ _ ?_
  refine wp_seq_k (fun K2 h2 => ?_)
  refine region_plain (row := none) [(0, true), (1, false)] rfl ?_
  have s10 := SG.self w3 none
  refine sn (fun b => .slice (some ⟨b, 0, none⟩) 0 0) #[] 3 s10 rfl rfl rfl (fun _ => by kernel_rfl) (fun b11 w12 hb13 k14 x15 s16 => ?_)
  have lo17 : w.heap.size ≤ b11 := by have := ((SG.belowR c9 s10 (fun kq e => by cases e))).size; omega
  have ne18 : b2 ≠ b11 := by have := blk_lt x6; have := World.grownBy.size s10; omega
  refine sq (v := .slice (some ⟨b11, 0, none⟩) 0 0) rfl (r_assign rfl rfl) rfl rfl rfl ?_
  refine sch_end ?_
  simp only [List.set_cons_zero, List.set_cons_succ]
  have x6 := SG.blk s16 x6 (by simp)
  have c19 := (SG.belowR c9 s16 (fun kq e => by cases e))
  refine h2 _ _ ?_
  refine wp_seq_k (fun K3 h3 => ?_)
  refine wp_seq_k (fun K4 h4 => ?_)
  refine region_plain (row := none) [(0, false), (1, true), (2, false)] rfl ?_
  have s20 := SG.self w12 none
  refine sq (v := .agg #[.int .i64 m, .slice A n c]) rfl (r_load2 rfl rfl (by kernel_rfl) (by kernel_rfl) (sgS (blk_cell (j := 0) x6 rfl) (by simp)) (sgS (blk_cell (j := 1) x6 rfl) (by simp))) rfl rfl rfl ?_
  refine sc (vs := [.agg #[.int .i64 m, .slice A n c]]) rfl rfl rfl (by kernel_rfl) rfl rfl (l2Good_any m A n c ps _ (Rd.kept ha (SG.belowR c19 s20 (fun kq e => by cases e))) (by omega)) ?_
  rintro e w22 ⟨rfl, b21⟩
  have s23 := SG.of_below s20 b21
  refine ⟨_, rfl, s23, ?_⟩
  rcases Bool.eq_false_or_eq_true (goodN m ps) with q24 | q24
  · rw [q24]
    have hg := good_of q24
    have hgl := hg.lo
    have hgh := hg.hi
    have hp := hg.pipesIn
    have hi0 := fun p (h9 : p ∈ ps) => (hg.pipe h9).1.1
    have hrise := hg.rise
    refine sq (v := .bool false) rfl (r_not rfl rfl rfl) rfl rfl rfl ?_
    refine sch_end ?_
    simp only [List.set_cons_zero, List.set_cons_succ]
    have x6 := SG.blk s23 x6 (by simp)
    have x15 := SG.blk s23 x15 (by simp)
    have c25 := (SG.belowR c19 s23 (fun kq e => by cases e))
    refine h4 _ _ ?_
    refine wp_cond_false rfl ?_
    refine wp_skip ?_
    refine h3 _ _ ?_
    refine wp_seq_k (fun K5 h5 => ?_)
    refine wp_seq_k (fun K6 h6 => ?_)
    refine region_quiet [(0, false)] rfl ?_
    refine sq (v := .int .i64 0) rfl (r_assign rfl rfl) rfl rfl rfl ?_
    refine sch_end ?_
    simp only [List.set_cons_zero, List.set_cons_succ]
    refine h6 _ _ ?_
    refine wp_block ?_
    have ho26 := own_empty (base := w.heap.size) (size := 1) x15 lo17
    replace ho26 : World.ownsRow _ _ _ _ _ _ (intsV []) := ho26
    have nb27 : Nb b2 (.slice (some ⟨b11, 0, none⟩) 0 0) := nb_new (by have := ne18; omega)
    refine loopK (fun am0 aa0 wl0 => ∃ (k : Nat) (A0_4 : Option Addr) (n0_4 : Nat) (c0_4 : Nat) (u0_11 u0_12 u0_13 u0_14 u0_15 u0_16 u0_17 u0_18 u0_19 u0_20 u0_21 u0_22 u0_23 u0_24 u0_25 u0_26 u0_27 u0_28 u0_29 u0_30 u0_31 u0_32 u0_33 u0_34 u0_35 u0_36 u0_37 u0_38 u0_39 u0_40 u0_41 u0_42 u0_43 u0_44 : Value), aa0 = ⟨[.agg #[.int .i64 m, .slice A n c], .pointer (some ⟨b2, 0, none⟩), .slice none 0 0, .bool false, .slice A0_4 n0_4 c0_4, .int .i64 ((k : Nat) : Int), .slice (some ⟨b11, 0, none⟩) 0 0, .agg #[.int .i64 m, .slice A n c], .bool true, .bool false, undef, u0_11, u0_12, u0_13, u0_14, u0_15, u0_16, u0_17, u0_18, u0_19, u0_20, u0_21, u0_22, u0_23, u0_24, u0_25, u0_26, u0_27, u0_28, u0_29, u0_30, u0_31, u0_32, u0_33, u0_34, u0_35, u0_36, u0_37, u0_38, u0_39, u0_40, u0_41, u0_42, u0_43, u0_44, undef].toArray, []⟩ ∧ (am0 = n - k) ∧ (k ≤ n) ∧ (n0_4 ≤ k) ∧ (wl0.heap[b2]? = some (.cells #[.int .i64 m, .slice A n c] 31 (0, 0))) ∧ (wl0.ownsRow w.heap.size 3 1 (.slice A0_4 n0_4 c0_4) n0_4 (intsV (brL ps (ps.take k)))) ∧ (Nb b2 (.slice A0_4 n0_4 c0_4)) ∧ (Below w.heap.size w wl0)) (n - 0) ?_ ?_
    · exact ⟨0, (some ⟨b11, 0, none⟩), 0, 0, _, _, _, _, _, _, _, _, _, _, _, _, _, _, _, _, _, _, _, _, _, _, _, _, _, _, _, _, _, _, _, _, _, _, rfl, rfl, (Nat.zero_le _), (Nat.zero_le _), x6, ho26, nb27, c25⟩
    rintro am0 aa0 wl0 K7 h7 ⟨k, A0_4, n0_4, c0_4, u0_11, u0_12, u0_13, u0_14, u0_15, u0_16, u0_17, u0_18, u0_19, u0_20, u0_21, u0_22, u0_23, u0_24, u0_25, u0_26, u0_27, u0_28, u0_29, u0_30, u0_31, u0_32, u0_33, u0_34, u0_35, u0_36, u0_37, u0_38, u0_39, u0_40, u0_41, u0_42, u0_43, u0_44, rfl, rfl, hk, hb4, x6, ho0_4, nb0_4_b2, c28⟩
    refine wp_seq_k (fun K8 h8 => ?_)
    refine wp_seq_k (fun K9 h9 => ?_)
    refine region_quiet [(0, false), (1, false), (2, false), (3, false), (4, false)] rfl ?_
    refine sq (v := .int .i64 ((k : Nat) : Int)) rfl (r_move rfl rfl) rfl rfl rfl ?_
    refine sq (v := .pointer (some ⟨b2, 1, none⟩)) rfl (r_field (k := 1) rfl rfl (by kernel_rfl)) rfl rfl rfl ?_
    refine sq (v := .slice A n c) rfl (r_load rfl rfl (by kernel_rfl) (eqS (blk_cell (j := 1) x6 rfl))) rfl rfl rfl ?_
    refine sq (v := .int .i64 ((n : Nat) : Int)) rfl (r_len rfl rfl (by kernel_rfl)) rfl rfl rfl ?_
    by_cases q29 : (((k : Nat) : Int) : Int) < (((n : Nat) : Int) : Int)
    · refine sq (v := .bool true) rfl (r_lss rfl rfl rfl (decide_eq_true q29)) rfl rfl rfl ?_
      simp only [List.set_cons_zero, List.set_cons_succ]
      refine sch_end ?_
      refine h9 _ _ ?_
      refine wp_cond_true rfl ?_
      refine wp_skip ?_
      refine h8 _ _ ?_
      refine wp_seq_k (fun K10 h10 => ?_)
      refine wp_block ?_
      refine wp_seq_k (fun K11 h11 => ?_)
      refine region_sch (row := none) (Sch.of [(0, false), (1, false), (3, false), (4, false), (5, false), (6, false), (7, false), (8, false), (10, false), (11, false), (12, false), (13, false), (14, false), (15, false), (2, true), (9, true), (16, true), (17, false)]) (by kernel_rfl) (by kernel_rfl) (fun _ d _ _ _ h => by cases d <;> exact h) (by kernel_rfl) (fun w30 e31 s32 => ?_)
      have ho33 := own_heap ho0_4 e31
      refine sq (v := .agg #[.int .i64 m, .slice A n c]) rfl (r_load2 rfl rfl (by kernel_rfl) (by kernel_rfl) (sgS (blk_cell (j := 0) x6 rfl) (by simp)) (sgS (blk_cell (j := 1) x6 rfl) (by simp))) rfl rfl rfl ?_
      refine sq (v := .int .i64 ((k : Nat) : Int)) rfl (r_move rfl rfl) rfl rfl rfl ?_
      refine sq (v := .pointer (some ⟨b2, 1, none⟩)) rfl (r_field (k := 1) rfl rfl (by kernel_rfl)) rfl rfl rfl ?_
      refine sq (v := .slice A n c) rfl (r_load rfl rfl (by kernel_rfl) (sgS (blk_cell (j := 1) x6 rfl) (by simp))) rfl rfl rfl ?_
      refine sq (v := .int .i64 ((k : Nat) : Int)) rfl (r_move rfl rfl) rfl rfl rfl ?_
      simp only [List.set_cons_zero, List.set_cons_succ]
      obtain ⟨x34, hx35⟩ := get_of (zs := ps) (k := k) (by have := hl; omega)
      obtain ⟨b36, o37, hA38, hb39, hc40, hc41, hc42, hc43⟩ := Rd.elPipe ha hx35
      refine sq (v := .pointer (some ⟨b36, o37 + k * 4, none⟩)) rfl (r_idx (k := k) rfl rfl hA38 rfl (by kernel_rfl) (by have := hl; omega)) rfl rfl rfl ?_
      refine sq (v := .pointer (some ⟨b36, o37 + k * 4 + 1, none⟩)) rfl (r_field (k := 1) rfl rfl (by kernel_rfl)) rfl rfl rfl ?_
      refine sq (v := .int .i64 x34.fr) rfl (r_load rfl rfl (by kernel_rfl) (sgS (later c28 hc41) (by simp))) rfl rfl rfl ?_
      refine sq (v := .pointer (some ⟨b2, 1, none⟩)) rfl (r_field (k := 1) rfl rfl (by kernel_rfl)) rfl rfl rfl ?_
      refine sq (v := .slice A n c) rfl (r_load rfl rfl (by kernel_rfl) (sgS (blk_cell (j := 1) x6 rfl) (by simp))) rfl rfl rfl ?_
      simp only [List.set_cons_zero, List.set_cons_succ]
      refine sq (v := .int .i64 ((k : Nat) : Int)) rfl (r_move rfl rfl) rfl rfl rfl ?_
      refine sq (v := .pointer (some ⟨b36, o37 + k * 4, none⟩)) rfl (r_idx (k := k) rfl rfl hA38 rfl (by kernel_rfl) (by have := hl; omega)) rfl rfl rfl ?_
      refine sq (v := .pointer (some ⟨b36, o37 + k * 4 + 2, none⟩)) rfl (r_field (k := 2) rfl rfl (by kernel_rfl)) rfl rfl rfl ?_
      refine sq (v := .int .i64 x34.to) rfl (r_load rfl rfl (by kernel_rfl) (sgS (later c28 hc42) (by simp))) rfl rfl rfl ?_
      refine sc (vs := [.agg #[.int .i64 m, .slice A n c], .int .i64 ((k : Nat) : Int)]) rfl rfl rfl (by kernel_rfl) rfl rfl (l2Without_any m A n c ps k _ (Rd.kept ha (SG.belowR c28 s32 (fun kq e => by cases e))) (by omega) hf (by omega)) ?_
      rintro e w52 ⟨A44, n45, c46, rfl, rd47, fm48, b51⟩
      have s53 := SG.of_below s32 b51
      refine ⟨_, rfl, s53, ?_⟩
      have ho54 := own_kept ho33 b51
      rw [erase_without hrise hx35] at rd47
      have hl49 := rd_pipes_len rd47
      have h9 := without_len ps x34.id
      have hin := hp x34 (List.mem_of_getElem? hx35)
      refine sc (vs := [.agg #[.int .i64 m, .slice A44 n45 c46], .int .i64 x34.fr]) rfl rfl rfl (by kernel_rfl) rfl rfl (l2Reached_any m A44 n45 c46 (without ps x34.id) x34.fr _ rd47 (by omega) (pipesIn_without hp _) (by omega) (by omega)) ?_
      rintro e w63 ⟨A55, n56, c57, rfl, rd58, fm59, b62⟩
      have s64 := SG.of_below s53 b62
      refine ⟨_, rfl, s64, ?_⟩
      have ho65 := own_kept ho54 b62
      have rd66 := Rd.kept rd47 b62
      have hl60 := rd_ints_len rd58
      have h9 := reachList_len (joined (without ps x34.id)) m.toNat x34.fr
      refine sc (vs := [.slice A55 n56 c57, .int .i64 x34.to]) rfl rfl rfl (by kernel_rfl) rfl rfl (l1Has_any A55 n56 c57 (reachList (joined (without ps x34.id)) m.toNat x34.fr) x34.to _ rd58 (by omega)) ?_
      rintro e w68 ⟨rfl, b67⟩
      have s69 := SG.of_below s64 b67
      refine ⟨_, rfl, s69, ?_⟩
      have ho70 := own_kept ho65 b67
      have rd71 := Rd.kept rd66 b67
      have rd72 := Rd.kept rd58 b67
      rcases Bool.eq_false_or_eq_true ((reachList (joined (without ps x34.id)) m.toNat x34.fr).contains x34.to) with q73 | q73
      · rw [q73]
        refine sq (v := .bool false) rfl (r_not rfl rfl rfl) rfl rfl rfl ?_
        simp only [List.set_cons_zero, List.set_cons_succ]
        refine sch_end ?_
        have x6 := SG.blk s69 x6 (by simp)
        have c74 := (SG.belowR c28 s69 (fun kq e => by cases e))
        refine h11 _ _ ?_
        refine wp_cond_false rfl ?_
        refine wp_skip ?_
        refine h10 _ _ ?_
        refine region_quiet [(0, false), (1, false), (2, false)] rfl ?_
        refine sq (v := .int .i64 ((k : Nat) : Int)) rfl (r_move rfl rfl) rfl rfl rfl ?_
        refine sq (v := .int .i64 ((k + 1 : Nat) : Int)) rfl (r_add (z := ((k + 1 : Nat) : Int)) rfl rfl rfl (by omega) (by omega)) rfl rfl rfl ?_
        refine sq (v := .int .i64 ((k + 1 : Nat) : Int)) rfl (r_assign rfl rfl) rfl rfl rfl ?_
        refine sch_end ?_
        simp only [List.set_cons_zero, List.set_cons_succ]
        exact h7 _ _ _ (by omega : (n - (k + 1)) < _) ⟨k + 1, A0_4, n0_4, c0_4, _, _, _, _, _, _, _, _, _, _, _, _, _, _, _, _, _, _, _, _, _, _, _, _, _, _, _, _, _, _, _, _, _, _, rfl, rfl, (by omega), (by omega), x6, (by rw [brL_no hx35 ((reach_has (by have h7 := hp x34 (List.mem_of_getElem? hx35); omega)).1 q73)]; exact ho70), nb0_4_b2, c74⟩
      · rw [q73]
        refine sq (v := .bool true) rfl (r_not rfl rfl rfl) rfl rfl rfl ?_
        simp only [List.set_cons_zero, List.set_cons_succ]
        refine sch_end ?_
        have x6 := SG.blk s69 x6 (by simp)
        have c75 := (SG.belowR c28 s69 (fun kq e => by cases e))
        refine h11 _ _ ?_
        refine wp_cond_true rfl ?_
        refine region_plain (row := (Value.ownBlock (.slice A0_4 n0_4 c0_4))) [(0, false), (1, false), (2, false), (3, false), (4, false), (5, false), (6, false), (7, true), (8, true), (9, false)] rfl ?_
        have s76 := SG.self w68 (Value.ownBlock (.slice A0_4 n0_4 c0_4))
        refine sq (v := .slice A0_4 n0_4 c0_4) rfl (r_move rfl rfl) rfl rfl rfl ?_
        refine sq (v := .pointer (some ⟨b2, 1, none⟩)) rfl (r_field (k := 1) rfl rfl (by kernel_rfl)) rfl rfl rfl ?_
        refine sq (v := .slice A n c) rfl (r_load rfl rfl (by kernel_rfl) (sgS (blk_cell (j := 1) x6 rfl) nb0_4_b2)) rfl rfl rfl ?_
        refine sq (v := .int .i64 ((k : Nat) : Int)) rfl (r_move rfl rfl) rfl rfl rfl ?_
        refine sq (v := .pointer (some ⟨b36, o37 + k * 4, none⟩)) rfl (r_idx (k := k) rfl rfl hA38 rfl (by kernel_rfl) (by have := hl; omega)) rfl rfl rfl ?_
        simp only [List.set_cons_zero, List.set_cons_succ]
        refine sq (v := .pointer (some ⟨b36, o37 + k * 4, none⟩)) rfl (r_field0 rfl rfl (by kernel_rfl)) rfl rfl rfl ?_
        refine sq (v := .int .i64 x34.id) rfl (r_load rfl rfl (by kernel_rfl) (sgS (later c75 hc40) (nb_lo ho70 hb39))) rfl rfl rfl ?_
        refine sn (fun b => .slice (some ⟨b, 0, none⟩) 1 1) #[.int .i64 x34.id] 3 s76 rfl rfl rfl (fun _ => by kernel_rfl) (fun b77 w78 hb79 k80 x81 s82 => ?_)
        have lo83 : w.heap.size ≤ b77 := by have := ((SG.belowR c75 s76 (fun kq e => (World.ownsRow.lt ho70 kq e).1))).size; omega
        have ne84 : b2 ≠ b77 := by have := blk_lt x6; have := World.grownBy.size s76; omega
        have nb85 : Nb b77 (.slice A0_4 n0_4 c0_4) := nb_hi ho70 (Nat.le_of_eq hb79)
        have ho86 := own_kept ho70 k80
        refine sap (e := 3) (size := 1) (base := w.heap.size) (m := 1) s82 rfl rfl rfl rfl rfl rfl (by kernel_rfl) ho86 x81 rfl rfl (by omega) (by omega) (by have := ((SG.belowR c75 s82 (fun kq e => (World.ownsRow.lt ho70 kq e).1))).size; omega) (.inl rfl) (fun g87 cap88 w89 ho90 hg91 hat92 hlt93 s94 => ?_)
        have nb95 : Nb b2 (.slice (some ⟨g87, 0, none⟩) (n0_4 + 1) cap88) := nb_app nb0_4_b2 (Nat.lt_of_lt_of_le (blk_lt x6) (World.grownBy.size s82)) hat92
        have nb96 : Nb b77 (.slice (some ⟨g87, 0, none⟩) (n0_4 + 1) cap88) := nb_app nb85 (blk_lt x81) hat92
        have x81 := (hg91.block _ (blk_lt x81) nb85).trans x81
        have ho90 := own_snoc ho90
        refine sq (v := .slice (some ⟨g87, 0, none⟩) (n0_4 + 1) cap88) rfl (r_assign rfl rfl) rfl rfl rfl ?_
        simp only [List.set_cons_zero, List.set_cons_succ]
        refine sch_end ?_
        have x6 := SG.blk s94 x6 nb0_4_b2
        have c97 := (SG.belowR c75 s94 (fun kq e => (World.ownsRow.lt ho70 kq e).1))
        refine h10 _ _ ?_
        refine region_quiet [(0, false), (1, false), (2, false)] rfl ?_
        refine sq (v := .int .i64 ((k : Nat) : Int)) rfl (r_move rfl rfl) rfl rfl rfl ?_
        refine sq (v := .int .i64 ((k + 1 : Nat) : Int)) rfl (r_add (z := ((k + 1 : Nat) : Int)) rfl rfl rfl (by omega) (by omega)) rfl rfl rfl ?_
        refine sq (v := .int .i64 ((k + 1 : Nat) : Int)) rfl (r_assign rfl rfl) rfl rfl rfl ?_
        refine sch_end ?_
        simp only [List.set_cons_zero, List.set_cons_succ]
        exact h7 _ _ _ (by omega : (n - (k + 1)) < _) ⟨k + 1, (some ⟨g87, 0, none⟩), (n0_4 + 1), cap88, _, _, _, _, _, _, _, _, _, _, _, _, _, _, _, _, _, _, _, _, _, _, _, _, _, _, _, _, _, _, _, _, _, _, rfl, rfl, (by omega), (by omega), x6, (by rw [brL_yes hx35 (fun h9 => by have h8 := (reach_has (m := m.toNat) (by have h7 := hp x34 (List.mem_of_getElem? hx35); omega)).2 h9; rw [q73] at h8; cases h8)]; exact ho90), nb95, c97⟩
    · refine sq (v := .bool false) rfl (r_lss rfl rfl rfl (decide_eq_false q29)) rfl rfl rfl ?_
      simp only [List.set_cons_zero, List.set_cons_succ]
      refine sch_end ?_
      refine h9 _ _ ?_
      refine wp_cond_false rfl ?_
      refine wp_exit ?_
      refine h5 _ _ ?_
      refine wp_seq_k (fun K12 h12 => ?_)
      refine region_quiet [(0, false), (1, false), (2, false)] rfl ?_
      refine sq (v := .slice A0_4 n0_4 c0_4) rfl (r_move rfl rfl) rfl rfl rfl ?_
      refine sq (v := .slice A0_4 n0_4 c0_4) rfl (r_assign rfl rfl) rfl rfl rfl ?_
      refine sq (v := .bool true) rfl (r_assign rfl rfl) rfl rfl rfl ?_
      refine sch_end ?_
      simp only [List.set_cons_zero, List.set_cons_succ]
      refine h12 _ _ ?_
      refine wp_ret ?_
      try simp only [Exit.then]
      refine ret2 rfl rfl rfl ?_
      exact fin_ints ho0_4 (by unfold BridgePipes_v0; rw [if_pos q24]; exact brL_all hl (by omega)) (by unfold BridgePipes_v1; exact q24.symm) c28
  · rw [q24]
    refine sq (v := .bool true) rfl (r_not rfl rfl rfl) rfl rfl rfl ?_
    refine sch_end ?_
    simp only [List.set_cons_zero, List.set_cons_succ]
    have x6 := SG.blk s23 x6 (by simp)
    have x15 := SG.blk s23 x15 (by simp)
    have c98 := (SG.belowR c19 s23 (fun kq e => by cases e))
    refine h4 _ _ ?_
    refine wp_cond_true rfl ?_
    refine wp_seq_k (fun K13 h13 => ?_)
    refine region_quiet [(0, false), (1, false), (2, false)] rfl ?_
    refine sq (v := .slice (some ⟨b11, 0, none⟩) 0 0) rfl (r_move rfl rfl) rfl rfl rfl ?_
    refine sq (v := .slice (some ⟨b11, 0, none⟩) 0 0) rfl (r_assign rfl rfl) rfl rfl rfl ?_
    refine sq (v := .bool false) rfl (r_assign rfl rfl) rfl rfl rfl ?_
    refine sch_end ?_
    simp only [List.set_cons_zero, List.set_cons_succ]
    refine h13 _ _ ?_
    refine wp_ret ?_
    try simp only [Exit.then]
    refine ret2 rfl rfl rfl ?_
    have ho99 := own_empty (base := w.heap.size) (size := 1) x15 lo17
    replace ho99 : World.ownsRow _ _ _ _ _ _ (intsV []) := ho99
    have nb100 : Nb b2 (.slice (some ⟨b11, 0, none⟩) 0 0) := nb_new (by have := ne18; omega)
    exact fin_ints (zs := []) ho99 (by unfold BridgePipes_v0; rw [if_neg (by rw [q24]; simp)]) (by unfold BridgePipes_v1; exact q24.symm) c98

set_option maxRecDepth 100000 in
set_option maxHeartbeats 1000000 in
theorem BridgePipes_impl (m : Int) (A : Option Addr) (n c : Nat) (ps : List Pp) (w : World) (ha : Rd w 4 A n (pipesV ps)) (hn : n ≤ 1048576) (hf : Fm A n c) :
    Calls Try.prog 28 #[.agg #[.int .i64 m, .slice A n c]] w fun e w' => ∃ A' d, e = .returned (.tuple #[.slice A' (BridgePipes_v0 m ps).length d, .bool (BridgePipes_v1 m ps)]) ∧ w'.ownsRow w.heap.size 3 1 (.slice A' (BridgePipes_v0 m ps).length d) (BridgePipes_v0 m ps).length (intsV (BridgePipes_v0 m ps)) ∧ Below w.heap.size w w' := by
  have hl := rd_pipes_len ha
  go_enter Try.func28, Try.ntmps28
  refine wp_seq_k (fun K1 h1 => ?_)
  refine region_plain (row := none) [(0, true), (1, false), (2, false)] rfl ?_
  have s1 := SG.self w none
  refine sn (fun b => .pointer (some ⟨b, 0, none⟩)) #[.int .i64 m, .slice A n c] 31 s1 rfl rfl rfl (fun _ => by kernel_rfl) (fun b2 w3 hb4 k5 x6 s7 => ?_)
  have lo8 : w.heap.size ≤ b2 := by have := ((SG.belowR (Below.refl _ _) s1 (fun kq e => by cases e))).size; omega
  refine sq (v := .slice none 0 0) rfl (r_assign rfl rfl) rfl rfl rfl ?_
  refine sq (v := .bool false) rfl (r_assign rfl rfl) rfl rfl rfl ?_
  refine sch_end ?_
  simp only [List.set_cons_zero, List.set_cons_succ]
  have c9 := (SG.belowR (Below.refl _ _) s7 (fun kq e => by cases e))
  refine h1 _ _ ?_
  refine wp_seq_k (fun K2 h2 => ?_)
  refine wp_seq_k (fun K3 h3 => ?_)
  refine region_plain (row := none) [(0, false), (1, true), (2, false)] rfl ?_
  have s10 := SG.self w3 none
  refine sq (v := .agg #[.int .i64 m, .slice A n c]) rfl (r_load2 rfl rfl (by kernel_rfl) (by kernel_rfl) (sgS (blk_cell (j := 0) x6 rfl) (by simp)) (sgS (blk_cell (j := 1) x6 rfl) (by simp))) rfl rfl rfl ?_
  refine sc (vs := [.agg #[.int .i64 m, .slice A n c]]) rfl rfl rfl (by kernel_rfl) rfl rfl (IsValid_any m A n c ps _ (Rd.kept ha (SG.belowR c9 s10 (fun kq e => by cases e))) (by omega)) ?_
  rintro e w12 ⟨rfl, b11⟩
  have s13 := SG.of_below s10 b11
  refine ⟨_, rfl, s13, ?_⟩
  rcases Bool.eq_false_or_eq_true (goodN m ps) with q14 | q14
  · rw [q14]
    have hg := good_of q14
    have hgl := hg.lo
    have hgh := hg.hi
    have hp := hg.pipesIn
    have hi0 := fun p (h9 : p ∈ ps) => (hg.pipe h9).1.1
    have hrise := hg.rise
    refine sq (v := .bool false) rfl (r_not rfl rfl rfl) rfl rfl rfl ?_
    refine sch_end ?_
    simp only [List.set_cons_zero, List.set_cons_succ]
    have x6 := SG.blk s13 x6 (by simp)
    have c15 := (SG.belowR c9 s13 (fun kq e => by cases e))
    refine h3 _ _ ?_
    refine wp_cond_false rfl ?_
    refine wp_skip ?_
    refine h2 _ _ ?_
    refine wp_seq_k (fun K4 h4 => ?_)
    refine region_plain (row := none) [(0, true), (1, false)] rfl ?_
    have s16 := SG.self w12 none
    refine sn (fun b => .slice (some ⟨b, 0, none⟩) 0 0) #[] 3 s16 rfl rfl rfl (fun _ => by kernel_rfl) (fun b17 w18 hb19 k20 x21 s22 => ?_)
    have lo23 : w.heap.size ≤ b17 := by have := ((SG.belowR c15 s16 (fun kq e => by cases e))).size; omega
    have ne24 : b2 ≠ b17 := by have := blk_lt x6; have := World.grownBy.size s16; omega
    refine sq (v := .slice (some ⟨b17, 0, none⟩) 0 0) rfl (r_assign rfl rfl) rfl rfl rfl ?_
    refine sch_end ?_
    simp only [List.set_cons_zero, List.set_cons_succ]
    have x6 := SG.blk s22 x6 (by simp)
    have c25 := (SG.belowR c15 s22 (fun kq e => by cases e))
    refine h4 _ _ ?_
    refine wp_seq_k (fun K5 h5 => ?_)
    refine wp_seq_k (fun K6 h6 => ?_)
    refine region_quiet [(0, false), (1, false), (2, false), (3, false)] rfl ?_
    refine sq (v := .pointer (some ⟨b2, 1, none⟩)) rfl (r_field (k := 1) rfl rfl (by kernel_rfl)) rfl rfl rfl ?_
    refine sq (v := .slice A n c) rfl (r_load rfl rfl (by kernel_rfl) (eqS (blk_cell (j := 1) x6 rfl))) rfl rfl rfl ?_
    refine sq (v := .int .i64 ((n : Nat) : Int)) rfl (r_len rfl rfl (by kernel_rfl)) rfl rfl rfl ?_
    refine sq (v := .int .i64 0) rfl (r_move rfl rfl) rfl rfl rfl ?_
    refine sch_end ?_
    simp only [List.set_cons_zero, List.set_cons_succ]
    refine h6 _ _ ?_
    refine wp_block ?_
    have ho26 := own_empty (base := w.heap.size) (size := 1) x21 lo23
    replace ho26 : World.ownsRow _ _ _ _ _ _ (intsV []) := ho26
    have nb27 : Nb b2 (.slice (some ⟨b17, 0, none⟩) 0 0) := nb_new (by have := ne24; omega)
    refine loopK (fun am0 aa0 wl0 => ∃ (k : Nat) (A0_4 : Option Addr) (n0_4 : Nat) (c0_4 : Nat) (u0_6 u0_15 u0_16 u0_17 u0_18 u0_19 u0_20 u0_21 u0_22 u0_23 u0_24 u0_25 u0_26 u0_27 u0_28 u0_29 u0_30 u0_31 u0_32 u0_33 u0_34 : Value), aa0 = ⟨[.agg #[.int .i64 m, .slice A n c], .pointer (some ⟨b2, 0, none⟩), .slice none 0 0, .bool false, .slice A0_4 n0_4 c0_4, undef, u0_6, .agg #[.int .i64 m, .slice A n c], .bool true, .bool false, .slice (some ⟨b17, 0, none⟩) 0 0, .pointer (some ⟨b2, 1, none⟩), .slice A n c, .int .i64 ((n : Nat) : Int), .int .i64 ((k : Nat) : Int), u0_15, u0_16, u0_17, u0_18, u0_19, u0_20, u0_21, u0_22, u0_23, u0_24, u0_25, u0_26, u0_27, u0_28, u0_29, u0_30, u0_31, u0_32, u0_33, u0_34, undef].toArray, []⟩ ∧ (am0 = n - k) ∧ (k ≤ n) ∧ (n0_4 ≤ k) ∧ (wl0.heap[b2]? = some (.cells #[.int .i64 m, .slice A n c] 31 (0, 0))) ∧ (wl0.ownsRow w.heap.size 3 1 (.slice A0_4 n0_4 c0_4) n0_4 (intsV (brL ps (ps.take k)))) ∧ (Nb b2 (.slice A0_4 n0_4 c0_4)) ∧ (Below w.heap.size w wl0)) (n - 0) ?_ ?_
    · exact ⟨0, (some ⟨b17, 0, none⟩), 0, 0, _, _, _, _, _, _, _, _, _, _, _, _, _, _, _, _, _, _, _, _, _, rfl, rfl, (Nat.zero_le _), (Nat.zero_le _), x6, ho26, nb27, c25⟩
    rintro am0 aa0 wl0 K7 h7 ⟨k, A0_4, n0_4, c0_4, u0_6, u0_15, u0_16, u0_17, u0_18, u0_19, u0_20, u0_21, u0_22, u0_23, u0_24, u0_25, u0_26, u0_27, u0_28, u0_29, u0_30, u0_31, u0_32, u0_33, u0_34, rfl, rfl, hk, hb4, x6, ho0_4, nb0_4_b2, c28⟩
    refine wp_seq_k (fun K8 h8 => ?_)
    refine region_quiet [(0, false)] rfl ?_
    by_cases q29 : (((k : Nat) : Int) : Int) < (((n : Nat) : Int) : Int)
    · refine sq (v := .bool true) rfl (r_lss rfl rfl rfl (decide_eq_true q29)) rfl rfl rfl ?_
      refine sch_end ?_
      simp only [List.set_cons_zero, List.set_cons_succ]
      refine h8 _ _ ?_
      refine wp_seq_k (fun K9 h9 => ?_)
      refine wp_cond_true rfl ?_
      refine wp_skip ?_
      refine h9 _ _ ?_
      refine wp_seq_k (fun K10 h10 => ?_)
      refine wp_block ?_
      refine wp_seq_k (fun K11 h11 => ?_)
      refine region_plain (row := none) [(0, false), (1, false), (2, true), (3, true)] rfl ?_
      have s30 := SG.self wl0 none
      obtain ⟨x31, hx32⟩ := get_of (zs := ps) (k := k) (by have := hl; omega)
      obtain ⟨b33, o34, hA35, hb36, hc37, hc38, hc39, hc40⟩ := Rd.elPipe ha hx32
      refine sq (v := .pointer (some ⟨b33, o34 + k * 4, none⟩)) rfl (r_idx (k := k) rfl rfl hA35 rfl (by kernel_rfl) (by have := hl; omega)) rfl rfl rfl ?_
      refine sq (v := .agg #[.int .i64 x31.id, .int .i64 x31.fr, .int .i64 x31.to, .int .i64 x31.sz]) rfl (r_load4 rfl rfl (by kernel_rfl) (by kernel_rfl) (sgS (later c28 hc37) (by simp)) (sgS (later c28 hc38) (by simp)) (sgS (later c28 hc39) (by simp)) (sgS (later c28 hc40) (by simp))) rfl rfl rfl ?_
      refine sn (fun b => .pointer (some ⟨b, 0, none⟩)) #[.int .i64 0, .int .i64 0, .int .i64 0, .int .i64 0] 51 s30 rfl rfl rfl (fun _ => by kernel_rfl) (fun b41 w42 hb43 k44 x45 s46 => ?_)
      have lo47 : w.heap.size ≤ b41 := by have := ((SG.belowR c28 s30 (fun kq e => by cases e))).size; omega
      have ne48 : b2 ≠ b41 := by have := blk_lt x6; have := World.grownBy.size s30; omega
      have nb49 : Nb b41 (.slice A0_4 n0_4 c0_4) := nb_hi ho0_4 (Nat.le_of_eq hb43)
      have ho50 := own_kept ho0_4 k44
      refine ss (j := 0) (news := [.int .i64 x31.id, .int .i64 x31.fr, .int .i64 x31.to, .int .i64 x31.sz]) (cs' := #[.int .i64 x31.id, .int .i64 x31.fr, .int .i64 x31.to, .int .i64 x31.sz]) s46 rfl rfl rfl rfl rfl rfl x45 rfl (by kernel_rfl) (by simp) rfl rfl (.inr (by have := World.grownBy.size s30; have := hb43; omega)) (fun w51 g52 x53 s54 => ?_)
      have ho55 := own_grown ho50 g52 (fun j e1 e2 => by cases e2; exact nb49 e1.symm)
      refine sch_end ?_
      simp only [List.set_cons_zero, List.set_cons_succ]
      have x6 := SG.blk s54 x6 (by simp)
      have c56 := (SG.belowR c28 s54 (fun kq e => by cases e))
      refine h11 _ _ ?_
      refine wp_seq_k (fun K12 h12 => ?_)
      refine region_sch (row := none) (Sch.of [(0, false), (1, false), (2, false), (3, false), (4, false), (6, false), (7, false), (5, true), (8, false), (9, true), (10, false)]) (by kernel_rfl) (by kernel_rfl) (fun _ d _ _ _ h => by cases d <;> exact h) (by kernel_rfl) (fun w57 e58 s59 => ?_)
      have ho60 := own_heap ho55 e58
      refine sq (v := .agg #[.int .i64 m, .slice A n c]) rfl (r_load2 rfl rfl (by kernel_rfl) (by kernel_rfl) (sgS (blk_cell (j := 0) x6 rfl) (by simp)) (sgS (blk_cell (j := 1) x6 rfl) (by simp))) rfl rfl rfl ?_
      refine sq (v := .pointer (some ⟨b41, 1, none⟩)) rfl (r_field (k := 1) rfl rfl (by kernel_rfl)) rfl rfl rfl ?_
      refine sq (v := .int .i64 x31.fr) rfl (r_load rfl rfl (by kernel_rfl) (sgS (blk_cell (j := 1) x53 rfl) (by simp))) rfl rfl rfl ?_
      refine sq (v := .pointer (some ⟨b41, 0, none⟩)) rfl (r_field0 rfl rfl (by kernel_rfl)) rfl rfl rfl ?_
      refine sq (v := .int .i64 x31.id) rfl (r_load rfl rfl (by kernel_rfl) (sgS (blk_cell (j := 0) x53 rfl) (by simp))) rfl rfl rfl ?_
      simp only [List.set_cons_zero, List.set_cons_succ]
      refine sq (v := .pointer (some ⟨b41, 2, none⟩)) rfl (r_field (k := 2) rfl rfl (by kernel_rfl)) rfl rfl rfl ?_
      refine sq (v := .int .i64 x31.to) rfl (r_load rfl rfl (by kernel_rfl) (sgS (blk_cell (j := 2) x53 rfl) (by simp))) rfl rfl rfl ?_
      have hin := hp x31 (List.mem_of_getElem? hx32)
      have z66 := ((SG.belowR c56 s59 (fun kq e => by cases e))).size
      refine sc (vs := [.agg #[.int .i64 m, .slice A n c], .int .i64 x31.fr, .int .i64 x31.id]) rfl rfl rfl (by kernel_rfl) rfl rfl (distances_any m A n c ps x31.fr x31.id _ (Rd.kept ha (SG.belowR c56 s59 (fun kq e => by cases e))) (by omega) hp (by omega) (by omega)) ?_
      rintro e w69 ⟨A61, n62, c63, rfl, ho64, b68⟩
      have s70 := SG.of_below s59 b68
      refine ⟨_, rfl, s70, ?_⟩
      have ho71 := own_kept ho60 b68
      have ho65 := own_base (base' := w.heap.size) ho64 z66
      have hlr67 := rd_ints_len (own_rd ho65)
      rw [distList_len] at hlr67
      have nb72 : Nb b2 (.slice A61 n62 c63) := nb_lo ho64 (Nat.lt_of_lt_of_le (blk_lt x6) (World.grownBy.size s59))
      have nb73 : Nb b41 (.slice A61 n62 c63) := nb_lo ho64 (Nat.lt_of_lt_of_le (blk_lt x53) (World.grownBy.size s59))
      have nr74 : NbR (.slice A61 n62 c63) (.slice A0_4 n0_4 c0_4) := fun j e1 e2 => by have h8 := (World.ownsRow.lt ho64 j e1).1; have h9 := (World.ownsRow.lt ho60 j e2).2; omega
      obtain ⟨g75, rfl, _, _⟩ := own_addr ho65 (by omega)
      refine sq (v := .pointer (some ⟨g75, (x31.to).toNat, none⟩)) rfl (r_idx0 (k := (x31.to).toNat) rfl rfl (by show Value.int .i64 x31.to = _; rw [Int.toNat_of_nonneg (by omega)]) (by kernel_rfl) (by omega)) rfl rfl rfl ?_
      refine slq (v := .int .i64 (distOf (joined (without ps x31.id)) x31.fr x31.to)) s70 rfl (r_load rfl rfl (by kernel_rfl) (eqS (own_atI ho65 (dist_get (by omega) (by omega))))) rfl rfl ?_
      by_cases q76 : (distOf (joined (without ps x31.id)) x31.fr x31.to : Int) < (0 : Int)
      · refine sq (v := .bool true) rfl (r_lss rfl rfl rfl (decide_eq_true q76)) rfl rfl rfl ?_
        simp only [List.set_cons_zero, List.set_cons_succ]
        refine sch_end ?_
        have x6 := SG.blk s70 x6 (by simp)
        have x53 := SG.blk s70 x53 (by simp)
        have c77 := (SG.belowR c56 s70 (fun kq e => by cases e))
        refine h12 _ _ ?_
        refine wp_cond_true rfl ?_
        refine region_plain (row := (Value.ownBlock (.slice A0_4 n0_4 c0_4))) [(0, false), (1, false), (2, false), (3, true), (4, true), (5, false)] rfl ?_
        have s78 := SG.self w69 (Value.ownBlock (.slice A0_4 n0_4 c0_4))
        refine sq (v := .slice A0_4 n0_4 c0_4) rfl (r_move rfl rfl) rfl rfl rfl ?_
        refine sq (v := .pointer (some ⟨b41, 0, none⟩)) rfl (r_field0 rfl rfl (by kernel_rfl)) rfl rfl rfl ?_
        refine sq (v := .int .i64 x31.id) rfl (r_load rfl rfl (by kernel_rfl) (sgS (blk_cell (j := 0) x53 rfl) nb49)) rfl rfl rfl ?_
        refine sn (fun b => .slice (some ⟨b, 0, none⟩) 1 1) #[.int .i64 x31.id] 3 s78 rfl rfl rfl (fun _ => by kernel_rfl) (fun b79 w80 hb81 k82 x83 s84 => ?_)
        have lo85 : w.heap.size ≤ b79 := by have := ((SG.belowR c77 s78 (fun kq e => (World.ownsRow.lt ho71 kq e).1))).size; omega
        have ne86 : b2 ≠ b79 := by have := blk_lt x6; have := World.grownBy.size s78; omega
        have ne87 : b41 ≠ b79 := by have := blk_lt x53; have := World.grownBy.size s78; omega
        have nb88 : Nb b79 (.slice A0_4 n0_4 c0_4) := nb_hi ho71 (Nat.le_of_eq hb81)
        have nb89 : Nb b79 (.slice (some ⟨g75, 0, none⟩) n62 c63) := nb_hi ho65 (Nat.le_of_eq hb81)
        have ho90 := own_kept ho71 k82
        have ho91 := own_kept ho65 k82
        refine sap (e := 3) (size := 1) (base := w.heap.size) (m := 1) s84 rfl rfl rfl rfl rfl rfl (by kernel_rfl) ho90 x83 rfl rfl (by omega) (by omega) (by have := ((SG.belowR c77 s84 (fun kq e => (World.ownsRow.lt ho71 kq e).1))).size; omega) (.inl rfl) (fun g92 cap93 w94 ho95 hg96 hat97 hlt98 s99 => ?_)
        have nb100 : Nb b2 (.slice (some ⟨g92, 0, none⟩) (n0_4 + 1) cap93) := nb_app nb0_4_b2 (Nat.lt_of_lt_of_le (blk_lt x6) (World.grownBy.size s84)) hat97
        have nb101 : Nb b41 (.slice (some ⟨g92, 0, none⟩) (n0_4 + 1) cap93) := nb_app nb49 (Nat.lt_of_lt_of_le (blk_lt x53) (World.grownBy.size s84)) hat97
        have nb102 : Nb b79 (.slice (some ⟨g92, 0, none⟩) (n0_4 + 1) cap93) := nb_app nb88 (blk_lt x83) hat97
        have x83 := (hg96.block _ (blk_lt x83) nb88).trans x83
        have ho95 := own_snoc ho95
        have nr103 : NbR (.slice (some ⟨g92, 0, none⟩) (n0_4 + 1) cap93) (.slice (some ⟨g75, 0, none⟩) n62 c63) := nbr_app (NbR.symm nr74) (fun j h => (World.ownsRow.lt ho91 j h).2) (hat3 (v := .slice A0_4 n0_4 c0_4) hat97)
        have ho104 := own_grown ho91 hg96 nr74
        refine sq (v := .slice (some ⟨g92, 0, none⟩) (n0_4 + 1) cap93) rfl (r_assign rfl rfl) rfl rfl rfl ?_
        simp only [List.set_cons_zero, List.set_cons_succ]
        refine sch_end ?_
        have x6 := SG.blk s99 x6 nb0_4_b2
        have x53 := SG.blk s99 x53 nb49
        have c105 := (SG.belowR c77 s99 (fun kq e => (World.ownsRow.lt ho71 kq e).1))
        refine h10 _ _ ?_
        refine region_quiet [(0, false), (1, false)] rfl ?_
        refine sq (v := .int .i64 ((k + 1 : Nat) : Int)) rfl (r_add (z := ((k + 1 : Nat) : Int)) rfl rfl rfl (by omega) (by omega)) rfl rfl rfl ?_
        refine sq (v := .int .i64 ((k + 1 : Nat) : Int)) rfl (r_move rfl rfl) rfl rfl rfl ?_
        refine sch_end ?_
        simp only [List.set_cons_zero, List.set_cons_succ]
        exact h7 _ _ _ (by omega : (n - (k + 1)) < _) ⟨k + 1, (some ⟨g92, 0, none⟩), (n0_4 + 1), cap93, _, _, _, _, _, _, _, _, _, _, _, _, _, _, _, _, _, _, _, _, _, rfl, rfl, (by omega), (by omega), x6, (by rw [brL_yes hx32 (fun h9 => by have h8 := dist_pos.2 h9; omega)]; exact ho95), nb100, c105⟩
      · refine sq (v := .bool false) rfl (r_lss rfl rfl rfl (decide_eq_false q76)) rfl rfl rfl ?_
        simp only [List.set_cons_zero, List.set_cons_succ]
        refine sch_end ?_
        have x6 := SG.blk s70 x6 (by simp)
        have x53 := SG.blk s70 x53 (by simp)
        have c106 := (SG.belowR c56 s70 (fun kq e => by cases e))
        refine h12 _ _ ?_
        refine wp_cond_false rfl ?_
        refine wp_skip ?_
        refine h10 _ _ ?_
        refine region_quiet [(0, false), (1, false)] rfl ?_
        refine sq (v := .int .i64 ((k + 1 : Nat) : Int)) rfl (r_add (z := ((k + 1 : Nat) : Int)) rfl rfl rfl (by omega) (by omega)) rfl rfl rfl ?_
        refine sq (v := .int .i64 ((k + 1 : Nat) : Int)) rfl (r_move rfl rfl) rfl rfl rfl ?_
        refine sch_end ?_
        simp only [List.set_cons_zero, List.set_cons_succ]
        exact h7 _ _ _ (by omega : (n - (k + 1)) < _) ⟨k + 1, A0_4, n0_4, c0_4, _, _, _, _, _, _, _, _, _, _, _, _, _, _, _, _, _, _, _, _, _, rfl, rfl, (by omega), (by omega), x6, (by rw [brL_no hx32 (dist_pos.1 (by omega))]; exact ho71), nb0_4_b2, c106⟩
    · refine sq (v := .bool false) rfl (r_lss rfl rfl rfl (decide_eq_false q29)) rfl rfl rfl ?_
      refine sch_end ?_
      simp only [List.set_cons_zero, List.set_cons_succ]
      refine h8 _ _ ?_
      refine wp_seq_k (fun K13 h13 => ?_)
      refine wp_cond_false rfl ?_
      refine wp_exit ?_
      refine h5 _ _ ?_
      refine wp_seq_k (fun K14 h14 => ?_)
      refine region_quiet [(0, false), (1, false), (2, false)] rfl ?_
      refine sq (v := .slice A0_4 n0_4 c0_4) rfl (r_move rfl rfl) rfl rfl rfl ?_
      refine sq (v := .slice A0_4 n0_4 c0_4) rfl (r_assign rfl rfl) rfl rfl rfl ?_
      refine sq (v := .bool true) rfl (r_assign rfl rfl) rfl rfl rfl ?_
      refine sch_end ?_
      simp only [List.set_cons_zero, List.set_cons_succ]
      refine h14 _ _ ?_
      refine wp_ret ?_
      try simp only [Exit.then]
      refine ret2 rfl rfl rfl ?_
      exact fin_ints ho0_4 (by unfold BridgePipes_v0; rw [if_pos q14]; exact brL_all hl (by omega)) (by unfold BridgePipes_v1; exact q14.symm) c28
  · rw [q14]
    refine sq (v := .bool true) rfl (r_not rfl rfl rfl) rfl rfl rfl ?_
    refine sch_end ?_
    simp only [List.set_cons_zero, List.set_cons_succ]
    have x6 := SG.blk s13 x6 (by simp)
    have c107 := (SG.belowR c9 s13 (fun kq e => by cases e))
    refine h3 _ _ ?_
    refine wp_cond_true rfl ?_
    refine wp_seq_k (fun K15 h15 => ?_)
    refine region_quiet [(0, false), (1, false)] rfl ?_
    refine sq (v := .slice none 0 0) rfl (r_assign rfl rfl) rfl rfl rfl ?_
    refine sq (v := .bool false) rfl (r_assign rfl rfl) rfl rfl rfl ?_
    refine sch_end ?_
    simp only [List.set_cons_zero, List.set_cons_succ]
    refine h15 _ _ ?_
    refine wp_ret ?_
    try simp only [Exit.then]
    refine ret2 rfl rfl rfl ?_
    exact fin_ints (zs := []) (World.ownsRow_nil _ _ _ _) (by unfold BridgePipes_v0; rw [if_neg (by rw [q14]; simp)]) (by unfold BridgePipes_v1; exact q14.symm) c107

end Go.Proofs.Ytdlcldaogcbnlaa
