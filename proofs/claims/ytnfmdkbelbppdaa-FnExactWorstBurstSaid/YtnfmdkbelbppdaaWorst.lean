/- The worst burst: both packages answer alike. -/
import Derived.Test.YtnfmdkbelbppdaaBestC
namespace Go.Proofs.Ytnfmdkbelbppdaa
open Go.RowKit
set_option linter.unusedVariables false
set_option linter.unusedSimpArgs false

theorem findL_pos' {ps : List Pp} {p : Pp} (h : p ∈ ps) : 0 ≤ findL ps p.id := by
  induction ps with
  | nil => cases h
  | cons q ps ih =>
    unfold findL
    by_cases e : q.id = p.id
    · rw [if_pos e]; exact Int.le_refl _
    · rw [if_neg e]
      have hp : p ∈ ps := (List.mem_cons.1 h).elim (fun e' => absurd (by rw [e']) e) id
      have := ih hp
      rw [if_neg (by omega)]; omega
theorem lt_none {r : Option (List Int × Int)} (h : r.isSome = false) : leastOf r = -1 := by
  cases r with
  | none => rfl
  | some b => cases h
noncomputable def worstTo (ps : List Pp) (vs : List Vv) (s : Int) (cs : List Int) : Nat → Int × Int
  | 0 => (0, -1)
  | i + 1 => match ps[i]? with
    | some p => if (worstTo ps vs s cs i).2 < leastOf (bestR ps vs s p.id cs) then (p.id, leastOf (bestR ps vs s p.id cs)) else worstTo ps vs s cs i
    | none => worstTo ps vs s cs i
theorem worst_yes {ps : List Pp} {vs : List Vv} {s : Int} {cs : List Int} {i : Nat} {u z : Int} {p : Pp} (h : worstTo ps vs s cs i = (u, z)) (hp : ps[i]? = some p) (hz : z < leastOf (bestR ps vs s p.id cs)) : worstTo ps vs s cs (i + 1) = (p.id, leastOf (bestR ps vs s p.id cs)) := by
  rw [worstTo, hp]; simp only []; rw [if_pos (by rw [h]; exact hz)]
theorem worst_no {ps : List Pp} {vs : List Vv} {s : Int} {cs : List Int} {i : Nat} {u z : Int} {p : Pp} (h : worstTo ps vs s cs i = (u, z)) (hp : ps[i]? = some p) (hz : ¬ z < leastOf (bestR ps vs s p.id cs)) : worstTo ps vs s cs (i + 1) = (u, z) := by
  rw [worstTo, hp]; simp only []; rw [if_neg (by rw [h]; exact hz), h]
noncomputable def worstR (ps : List Pp) (vs : List Vv) (s : Int) (cs : List Int) : Int × Int := worstTo ps vs s cs ps.length
noncomputable def WorstBurst_v2 (m : Int) (ps : List Pp) (vs : List Vv) (s : Int) (cs : List Int) : Bool := goodV m ps vs && (inB s 1 m && (custOk m cs && decide (0 ≤ (worstR ps vs s cs).2)))
noncomputable def WorstBurst_v0 (m : Int) (ps : List Pp) (vs : List Vv) (s : Int) (cs : List Int) : Int := if WorstBurst_v2 m ps vs s cs = true then (worstR ps vs s cs).1 else 0
noncomputable def WorstBurst_v1 (m : Int) (ps : List Pp) (vs : List Vv) (s : Int) (cs : List Int) : Int := if WorstBurst_v2 m ps vs s cs = true then (worstR ps vs s cs).2 else 0

set_option maxRecDepth 100000 in
set_option maxHeartbeats 1000000 in
theorem WorstBurst_impl (m : Int) (A : Option Addr) (n c : Nat) (ps : List Pp) (A2 : Option Addr) (n2 c2 : Nat) (vs : List Vv) (s : Int) (A4 : Option Addr) (n4 c4 : Nat) (cs : List Int) (w : World) (ha : Rd w 4 A n (pipesV ps)) (hb : Rd w 4 A2 n2 (valvesV vs)) (hc4 : Rd w 1 A4 n4 (intsV cs)) (hn : n ≤ 1048576) (hn2 : n2 ≤ 1048576) (hn4 : n4 ≤ 1048576) (hfm : Fm A n c) (hfm2 : Fm A2 n2 c2) (hfc : Fm A4 n4 c4) :
    Calls Try.prog 38 #[.agg #[.int .i64 m, .slice A n c], .slice A2 n2 c2, .int .i64 s, .slice A4 n4 c4] w fun e w' => e = .returned (.tuple #[.int .i64 (WorstBurst_v0 m ps vs s cs), .int .i64 (WorstBurst_v1 m ps vs s cs), .bool (WorstBurst_v2 m ps vs s cs)]) ∧ Below w.heap.size w w' := by
  have hl := rd_pipes_len ha
  have hl2 := rd_valves_len hb
  have hl4 := rd_ints_len hc4
  go_enter Try.func38, Try.ntmps38
  refine wp_seq_k (fun K1 h1 => ?_)
  refine W.region_plain (row := none) [(0, true), (1, false), (2, false), (3, false)] (by kernel_rfl) ?_
  have s1 := SG.self w none
  refine W.sn (fun b => .pointer (some ⟨b, 0, none⟩)) #[.int .i64 m, .slice A n c] 32 s1 rfl (by kernel_rfl) rfl (fun _ => by kernel_rfl) (fun b2 w3 hb4 k5 x6 s7 => ?_)
  have lo8 : w.heap.size ≤ b2 := by have := ((SG.belowR (Below.refl _ _) s1 (fun kq e => by cases e))).size; omega
  refine W.as (v := .int .i64 0) (h := ?_)
  refine W.as (v := .int .i64 0) (h := ?_)
  refine W.as (v := .bool false) (h := ?_)
  refine W.endF 66 [(0, .agg #[.int .i64 m, .slice A n c]), (1, .slice A2 n2 c2), (2, .int .i64 s), (3, .slice A4 n4 c4), (4, .pointer (some ⟨b2, 0, none⟩)), (8, .int .i64 0), (9, .int .i64 0), (10, .bool false)] (fun U9 => ?_)
  have c10 := (SG.belowR (Below.refl _ _) s7 (fun kq e => by cases e))
  refine h1 _ _ ?_
  refine wp_seq_k (fun K2 h2 => ?_)
  refine wp_seq_k (fun K3 h3 => ?_)
  refine W.region_plain (row := none) [(0, false), (1, false), (2, true), (3, false), (4, false), (5, false), (6, false), (7, true), (8, false), (9, false), (10, false), (11, false), (12, false), (13, true), (14, false), (15, false)] (by kernel_rfl) ?_
  have s11 := SG.self w3 none
  refine W.q (v := .agg #[.int .i64 m, .slice A n c]) (hr := (r_load2 rfl (by kernel_rfl) (by kernel_rfl) (by kernel_rfl) (sgS (blk_cell (j := 0) x6 (by kernel_rfl)) (by simp)) (sgS (blk_cell (j := 1) x6 (by kernel_rfl)) (by simp)))) (h := ?_)
  refine W.mv (v := .slice A2 n2 c2) (h := ?_)
  refine W.sc (vs := [.agg #[.int .i64 m, .slice A n c], .slice A2 n2 c2]) rfl rfl (by kernel_rfl) (by kernel_rfl) (by kernel_rfl) rfl (IsValidValves_any m A n c ps A2 n2 c2 vs _ (Rd.kept ha (SG.belowR c10 s11 (fun kq e => by cases e))) (Rd.kept hb (SG.belowR c10 s11 (fun kq e => by cases e))) (by omega) (by omega) hfm2) ?_
  rintro e w13 ⟨rfl, b12⟩
  have s14 := SG.of_below s11 b12
  refine ⟨_, rfl, s14, ?_⟩
  rcases Bool.eq_false_or_eq_true (goodV m ps vs) with q15 | q15
  · rw [q15]
    have hv9 := goodV_of q15
    have hg := hv9.net
    have hgl := hg.lo
    have hgh := hg.hi
    have hp := hg.pipesIn
    have hlen10 := hg.len
    have hu := hv9.uniq
    have hvl := hv9.len
    refine W.q (v := .bool false) (hr := (r_not (b := true) rfl (by kernel_rfl) rfl)) (h := ?_)
    refine W.mv (v := .bool false) (h := ?_)
    refine W.q (v := .agg #[.int .i64 m, .slice A n c]) (hr := (r_load2 rfl (by kernel_rfl) (by kernel_rfl) (by kernel_rfl) (sgS (blk_cell (j := 0) x6 (by kernel_rfl)) (by simp)) (sgS (blk_cell (j := 1) x6 (by kernel_rfl)) (by simp)))) (h := ?_)
    refine W.mv (v := .int .i64 s) (h := ?_)
    refine W.sc (vs := [.agg #[.int .i64 m, .slice A n c], .int .i64 s]) rfl rfl (by kernel_rfl) (by kernel_rfl) (by kernel_rfl) rfl (has_any m A n c ps s _) ?_
    rintro e w17 ⟨rfl, b16⟩
    have s18 := SG.of_below s14 b16
    refine ⟨_, rfl, s18, ?_⟩
    rcases Bool.eq_false_or_eq_true (inB s 1 m) with q19 | q19
    · rw [q19]
      have hs := inB_iff.1 q19
      refine W.q (v := .bool false) (hr := (r_not (b := true) rfl (by kernel_rfl) rfl)) (h := ?_)
      refine W.q (v := .bool false) (hr := (r_pick (b := false) rfl (by kernel_rfl) (by kernel_rfl))) (h := ?_)
      refine W.mv (v := .bool false) (h := ?_)
      refine W.q (v := .agg #[.int .i64 m, .slice A n c]) (hr := (r_load2 rfl (by kernel_rfl) (by kernel_rfl) (by kernel_rfl) (sgS (blk_cell (j := 0) x6 (by kernel_rfl)) (by simp)) (sgS (blk_cell (j := 1) x6 (by kernel_rfl)) (by simp)))) (h := ?_)
      refine W.mv (v := .slice A4 n4 c4) (h := ?_)
      refine W.sc (vs := [.agg #[.int .i64 m, .slice A n c], .slice A4 n4 c4]) rfl rfl (by kernel_rfl) (by kernel_rfl) (by kernel_rfl) rfl (areCustomers_any m A n c ps A4 n4 c4 cs _ (Rd.kept ha (SG.belowR c10 s18 (fun kq e => by cases e))) (by omega) (Rd.kept hc4 (SG.belowR c10 s18 (fun kq e => by cases e))) (by omega)) ?_
      rintro e w21 ⟨rfl, b20⟩
      have s22 := SG.of_below s18 b20
      refine ⟨_, rfl, s22, ?_⟩
      rcases Bool.eq_false_or_eq_true (custOk m cs) with q23 | q23
      · rw [q23]
        have hco := q23
        have hco9 := custOk_of hco
        refine W.q (v := .bool false) (hr := (r_not (b := true) rfl (by kernel_rfl) rfl)) (h := ?_)
        refine W.q (v := .bool false) (hr := (r_pick (b := false) rfl (by kernel_rfl) (by kernel_rfl))) (h := ?_)
        refine W.endF 66 [(0, .agg #[.int .i64 m, .slice A n c]), (1, .slice A2 n2 c2), (2, .int .i64 s), (3, .slice A4 n4 c4), (4, .pointer (some ⟨b2, 0, none⟩)), (8, .int .i64 0), (9, .int .i64 0), (10, .bool false), (33, .bool false)] (fun U24 => ?_)
        have x6 := SG.blk s22 x6 (by simp)
        have c25 := (SG.belowR c10 s22 (fun kq e => by cases e))
        refine h3 _ _ ?_
        refine wp_cond_false (by kernel_rfl) ?_
        refine wp_skip ?_
        refine h2 _ _ ?_
        refine wp_seq_k (fun K4 h4 => ?_)
        refine W.region_quiet [(0, false), (1, false)] (by kernel_rfl) ?_
        refine W.as (v := .int .i64 0) (h := ?_)
        refine W.as (v := .int .i64 (-1)) (h := ?_)
        refine W.endF 66 [(0, .agg #[.int .i64 m, .slice A n c]), (1, .slice A2 n2 c2), (2, .int .i64 s), (3, .slice A4 n4 c4), (4, .pointer (some ⟨b2, 0, none⟩)), (8, .int .i64 0), (9, .int .i64 0), (10, .bool false), (11, .int .i64 0), (12, .int .i64 (-1)), (33, .bool false)] (fun U26 => ?_)
        refine h4 _ _ ?_
        refine wp_seq_k (fun K5 h5 => ?_)
        refine wp_seq_k (fun K6 h6 => ?_)
        refine W.region_quiet [(0, false), (1, false), (2, false), (3, false)] (by kernel_rfl) ?_
        refine W.q (v := .pointer (some ⟨b2, 1, none⟩)) (hr := (r_field (k := 1) rfl (by kernel_rfl) (by kernel_rfl))) (h := ?_)
        refine W.ld (v := .slice A n c) (hc := (eqS (blk_cell (j := 1) x6 (by kernel_rfl)))) (h := ?_)
        refine W.q (v := .int .i64 ((n : Nat) : Int)) (hr := (r_len (A := A) (n := n) (c := c) rfl (by kernel_rfl) (by kernel_rfl))) (h := ?_)
        refine W.mv (v := .int .i64 0) (h := ?_)
        refine W.endF 66 [(0, .agg #[.int .i64 m, .slice A n c]), (1, .slice A2 n2 c2), (2, .int .i64 s), (3, .slice A4 n4 c4), (4, .pointer (some ⟨b2, 0, none⟩)), (8, .int .i64 0), (9, .int .i64 0), (10, .bool false), (11, .int .i64 0), (12, .int .i64 (-1)), (33, .bool false), (35, .slice A n c), (36, .int .i64 ((n : Nat) : Int)), (37, .int .i64 0)] (fun U27 => ?_)
        refine h6 _ _ ?_
        refine wp_block ?_
        refine loopK (fun am0 aa0 wl0 => ∃ (i : Nat) (u : Int) (z : Int) (U0 : Nat → Value), aa0 = ⟨(fr U0 [(0, .agg #[.int .i64 m, .slice A n c]), (1, .slice A2 n2 c2), (2, .int .i64 s), (3, .slice A4 n4 c4), (4, .pointer (some ⟨b2, 0, none⟩)), (8, .int .i64 0), (9, .int .i64 0), (10, .bool false), (11, .int .i64 u), (12, .int .i64 z), (33, .bool false), (35, .slice A n c), (36, .int .i64 ((n : Nat) : Int)), (37, .int .i64 ((i : Nat) : Int))] 66 0).toArray, []⟩ ∧ (am0 = n - i) ∧ (i ≤ n) ∧ (worstTo ps vs s cs i = (u, z)) ∧ (-1 ≤ z) ∧ (wl0.heap[b2]? = some (.cells #[.int .i64 m, .slice A n c] 32 (0, 0))) ∧ (Below w.heap.size w wl0)) (n - 0) ?_ ?_
        · exact ⟨0, 0, -1, (fun iU9 => lk [(0, .agg #[.int .i64 m, .slice A n c]), (1, .slice A2 n2 c2), (2, .int .i64 s), (3, .slice A4 n4 c4), (4, .pointer (some ⟨b2, 0, none⟩)), (8, .int .i64 0), (9, .int .i64 0), (10, .bool false), (11, .int .i64 0), (12, .int .i64 (-1)), (33, .bool false), (35, .slice A n c), (36, .int .i64 ((n : Nat) : Int)), (37, .int .i64 0)] iU9 (U27 iU9)), (by kernel_rfl), rfl, (Nat.zero_le _), rfl, (by omega), x6, c25⟩
        rintro am0 aa0 wl0 K7 h7 ⟨i, u, z, U0, rfl, rfl, hi, huz, hz, x6, c28⟩
        refine wp_seq_k (fun K8 h8 => ?_)
        refine W.region_quiet [(0, false)] (by kernel_rfl) ?_
        by_cases q29 : (((i : Nat) : Int) : Int) < (((n : Nat) : Int) : Int)
        · refine W.q (v := .bool true) (hr := (r_lss (m := ((i : Nat) : Int)) (n := ((n : Nat) : Int)) rfl (by kernel_rfl) (by kernel_rfl) (decide_eq_true q29))) (h := ?_)
          refine W.endF 66 [(0, .agg #[.int .i64 m, .slice A n c]), (1, .slice A2 n2 c2), (2, .int .i64 s), (3, .slice A4 n4 c4), (4, .pointer (some ⟨b2, 0, none⟩)), (8, .int .i64 0), (9, .int .i64 0), (10, .bool false), (11, .int .i64 u), (12, .int .i64 z), (33, .bool false), (35, .slice A n c), (36, .int .i64 ((n : Nat) : Int)), (37, .int .i64 ((i : Nat) : Int)), (38, .bool true)] (fun U30 => ?_)
          refine h8 _ _ ?_
          refine wp_seq_k (fun K9 h9 => ?_)
          refine wp_cond_true (by kernel_rfl) ?_
          refine wp_skip ?_
          refine h9 _ _ ?_
          refine wp_seq_k (fun K10 h10 => ?_)
          refine wp_block ?_
          refine wp_seq_k (fun K11 h11 => ?_)
          refine W.region_plain (row := none) [(0, false), (1, false), (2, true), (3, true)] (by kernel_rfl) ?_
          have s31 := SG.self wl0 none
          obtain ⟨x32, hx33⟩ := get_of (zs := ps) (k := i) (by have := hl; omega)
          obtain ⟨b34, o35, hA36, hb37, hc38, hc39, hc40, hc41⟩ := Rd.elPipe ha hx33
          refine W.q (v := .pointer (some ⟨b34, o35 + i * 4, none⟩)) (hr := (r_idx (n := n) (c := c) (k := i) rfl (by kernel_rfl) hA36 (by kernel_rfl) (by kernel_rfl) (by have := hl; omega))) (h := ?_)
          refine W.q (v := .agg #[.int .i64 x32.id, .int .i64 x32.fr, .int .i64 x32.to, .int .i64 x32.sz]) (hr := (r_load4 rfl (by kernel_rfl) (by kernel_rfl) (by kernel_rfl) (sgS (later c28 hc38) (by simp)) (sgS (later c28 hc39) (by simp)) (sgS (later c28 hc40) (by simp)) (sgS (later c28 hc41) (by simp)))) (h := ?_)
          refine W.sn (fun b => .pointer (some ⟨b, 0, none⟩)) #[.int .i64 0, .int .i64 0, .int .i64 0, .int .i64 0] 72 s31 rfl (by kernel_rfl) rfl (fun _ => by kernel_rfl) (fun b42 w43 hb44 k45 x46 s47 => ?_)
          have lo48 : w.heap.size ≤ b42 := by have := ((SG.belowR c28 s31 (fun kq e => by cases e))).size; omega
          have ne49 : b2 ≠ b42 := by have := blk_lt x6; have := World.grownBy.size s31; omega
          refine W.ss (v := .agg #[.int .i64 x32.id, .int .i64 x32.fr, .int .i64 x32.to, .int .i64 x32.sz]) (j := 0) (news := [.int .i64 x32.id, .int .i64 x32.fr, .int .i64 x32.to, .int .i64 x32.sz]) (cs' := #[.int .i64 x32.id, .int .i64 x32.fr, .int .i64 x32.to, .int .i64 x32.sz]) s47 rfl (by kernel_rfl) rfl rfl (by kernel_rfl) (by kernel_rfl) x46 (by kernel_rfl) (by kernel_rfl) (by simp) (by kernel_rfl) (by kernel_rfl) (.inr (by have := World.grownBy.size s31; have := hb44; omega)) (fun w50 g51 x52 s53 => ?_)
          refine W.endF 66 [(0, .agg #[.int .i64 m, .slice A n c]), (1, .slice A2 n2 c2), (2, .int .i64 s), (3, .slice A4 n4 c4), (4, .pointer (some ⟨b2, 0, none⟩)), (8, .int .i64 0), (9, .int .i64 0), (10, .bool false), (11, .int .i64 u), (12, .int .i64 z), (14, .pointer (some ⟨b42, 0, none⟩)), (33, .bool false), (35, .slice A n c), (36, .int .i64 ((n : Nat) : Int)), (37, .int .i64 ((i : Nat) : Int)), (38, .bool true)] (fun U54 => ?_)
          have x6 := SG.blk s53 x6 (by simp)
          have c55 := (SG.belowR c28 s53 (fun kq e => by cases e))
          refine h11 _ _ ?_
          refine wp_seq_k (fun K12 h12 => ?_)
          refine W.region_plain (row := none) [(0, false), (1, false), (2, false), (3, false), (4, false), (5, false), (6, true), (7, false), (8, false), (9, false), (10, false), (11, false), (12, false), (13, false)] (by kernel_rfl) ?_
          have s56 := SG.self w50 none
          refine W.q (v := .agg #[.int .i64 m, .slice A n c]) (hr := (r_load2 rfl (by kernel_rfl) (by kernel_rfl) (by kernel_rfl) (sgS (blk_cell (j := 0) x6 (by kernel_rfl)) (by simp)) (sgS (blk_cell (j := 1) x6 (by kernel_rfl)) (by simp)))) (h := ?_)
          refine W.mv (v := .slice A2 n2 c2) (h := ?_)
          refine W.mv (v := .int .i64 s) (h := ?_)
          refine W.q (v := .pointer (some ⟨b42, 0, none⟩)) (hr := (r_field0 rfl (by kernel_rfl) (by kernel_rfl))) (h := ?_)
          refine W.ld (v := .int .i64 x32.id) (hc := (sgS (blk_cell (j := 0) x52 (by kernel_rfl)) (by simp))) (h := ?_)
          refine W.mv (v := .slice A4 n4 c4) (h := ?_)
          have z61 := ((SG.belowR c55 s56 (fun kq e => by cases e))).size
          refine W.sc (vs := [.agg #[.int .i64 m, .slice A n c], .slice A2 n2 c2, .int .i64 s, .int .i64 x32.id, .slice A4 n4 c4]) rfl rfl (by kernel_rfl) (by kernel_rfl) (by kernel_rfl) rfl (gentlest_any m A n c ps A2 n2 c2 vs s x32.id A4 n4 c4 cs _ (Rd.kept ha (SG.belowR c55 s56 (fun kq e => by cases e))) (Rd.kept hb (SG.belowR c55 s56 (fun kq e => by cases e))) (by omega) (by omega) hfm2 hv9 hs (findL_pos' (List.mem_of_getElem? hx33)) (Rd.kept hc4 (SG.belowR c55 s56 (fun kq e => by cases e))) (by omega) hco) ?_
          rintro e w64 ⟨A57, c58, rfl, ho59, b63⟩
          have s65 := SG.of_below s56 b63
          refine ⟨_, rfl, s65, ?_⟩
          have nb66 : Nb b2 (.slice A57 ((bpOf (bestR ps vs s x32.id cs)).length) c58) := nb_lo ho59 (Nat.lt_of_lt_of_le (blk_lt x6) (World.grownBy.size s56))
          have nb67 : Nb b42 (.slice A57 ((bpOf (bestR ps vs s x32.id cs)).length) c58) := nb_lo ho59 (Nat.lt_of_lt_of_le (blk_lt x52) (World.grownBy.size s56))
          have ho60 := own_base (base' := w.heap.size) ho59 z61
          refine W.mv (v := .tuple #[.slice A57 ((bpOf (bestR ps vs s x32.id cs)).length) c58, .int .i64 (ltOf (bestR ps vs s x32.id cs)), .bool ((bestR ps vs s x32.id cs).isSome)]) (h := ?_)
          refine W.q (v := .slice A57 ((bpOf (bestR ps vs s x32.id cs)).length) c58) (hr := (r_extract (vs := #[.slice A57 ((bpOf (bestR ps vs s x32.id cs)).length) c58, .int .i64 (ltOf (bestR ps vs s x32.id cs)), .bool ((bestR ps vs s x32.id cs).isSome)]) rfl (by kernel_rfl) (by kernel_rfl))) (h := ?_)
          refine W.q (v := .int .i64 (ltOf (bestR ps vs s x32.id cs))) (hr := (r_extract (vs := #[.slice A57 ((bpOf (bestR ps vs s x32.id cs)).length) c58, .int .i64 (ltOf (bestR ps vs s x32.id cs)), .bool ((bestR ps vs s x32.id cs).isSome)]) rfl (by kernel_rfl) (by kernel_rfl))) (h := ?_)
          refine W.q (v := .bool ((bestR ps vs s x32.id cs).isSome)) (hr := (r_extract (vs := #[.slice A57 ((bpOf (bestR ps vs s x32.id cs)).length) c58, .int .i64 (ltOf (bestR ps vs s x32.id cs)), .bool ((bestR ps vs s x32.id cs).isSome)]) rfl (by kernel_rfl) (by kernel_rfl))) (h := ?_)
          refine W.as (v := .slice A57 ((bpOf (bestR ps vs s x32.id cs)).length) c58) (h := ?_)
          refine W.as (v := .int .i64 (ltOf (bestR ps vs s x32.id cs))) (h := ?_)
          refine W.as (v := .bool ((bestR ps vs s x32.id cs).isSome)) (h := ?_)
          refine W.endF 66 [(0, .agg #[.int .i64 m, .slice A n c]), (1, .slice A2 n2 c2), (2, .int .i64 s), (3, .slice A4 n4 c4), (4, .pointer (some ⟨b2, 0, none⟩)), (8, .int .i64 0), (9, .int .i64 0), (10, .bool false), (11, .int .i64 u), (12, .int .i64 z), (14, .pointer (some ⟨b42, 0, none⟩)), (16, .int .i64 (ltOf (bestR ps vs s x32.id cs))), (17, .bool ((bestR ps vs s x32.id cs).isSome)), (33, .bool false), (35, .slice A n c), (36, .int .i64 ((n : Nat) : Int)), (37, .int .i64 ((i : Nat) : Int)), (38, .bool true)] (fun U68 => ?_)
          have x6 := SG.blk s65 x6 (by simp)
          have x52 := SG.blk s65 x52 (by simp)
          have c69 := (SG.belowR c55 s65 (fun kq e => by cases e))
          refine h12 _ _ ?_
          refine wp_seq_k (fun K13 h13 => ?_)
          refine W.region_quiet [(0, false), (1, false), (2, false), (3, false), (4, false), (5, false)] (by kernel_rfl) ?_
          refine W.mv (v := .bool ((bestR ps vs s x32.id cs).isSome)) (h := ?_)
          refine W.mv (v := .bool ((bestR ps vs s x32.id cs).isSome)) (h := ?_)
          rcases Bool.eq_false_or_eq_true ((bestR ps vs s x32.id cs).isSome) with q70 | q70
          · rw [q70]
            refine W.mv (v := .int .i64 (ltOf (bestR ps vs s x32.id cs))) (h := ?_)
            refine W.mv (v := .int .i64 z) (h := ?_)
            by_cases q71 : ((ltOf (bestR ps vs s x32.id cs)) : Int) > (z : Int)
            · refine W.q (v := .bool true) (hr := (r_gtr (m := (ltOf (bestR ps vs s x32.id cs))) (n := z) rfl (by kernel_rfl) (by kernel_rfl) (decide_eq_true q71))) (h := ?_)
              refine W.q (v := .bool true) (hr := (r_pick (b := true) rfl (by kernel_rfl) (by kernel_rfl))) (h := ?_)
              refine W.endF 66 [(0, .agg #[.int .i64 m, .slice A n c]), (1, .slice A2 n2 c2), (2, .int .i64 s), (3, .slice A4 n4 c4), (4, .pointer (some ⟨b2, 0, none⟩)), (8, .int .i64 0), (9, .int .i64 0), (10, .bool false), (11, .int .i64 u), (12, .int .i64 z), (14, .pointer (some ⟨b42, 0, none⟩)), (16, .int .i64 (ltOf (bestR ps vs s x32.id cs))), (17, .bool true), (33, .bool false), (35, .slice A n c), (36, .int .i64 ((n : Nat) : Int)), (37, .int .i64 ((i : Nat) : Int)), (38, .bool true), (57, .bool true)] (fun U72 => ?_)
              refine h13 _ _ ?_
              refine wp_cond_true (by kernel_rfl) ?_
              refine W.region_quiet [(0, false), (1, false), (2, false), (3, false), (4, false)] (by kernel_rfl) ?_
              refine W.q (v := .pointer (some ⟨b42, 0, none⟩)) (hr := (r_field0 rfl (by kernel_rfl) (by kernel_rfl))) (h := ?_)
              refine W.ld (v := .int .i64 x32.id) (hc := (eqS (blk_cell (j := 0) x52 (by kernel_rfl)))) (h := ?_)
              refine W.mv (v := .int .i64 (ltOf (bestR ps vs s x32.id cs))) (h := ?_)
              refine W.as (v := .int .i64 x32.id) (h := ?_)
              refine W.as (v := .int .i64 (ltOf (bestR ps vs s x32.id cs))) (h := ?_)
              refine W.endF 66 [(0, .agg #[.int .i64 m, .slice A n c]), (1, .slice A2 n2 c2), (2, .int .i64 s), (3, .slice A4 n4 c4), (4, .pointer (some ⟨b2, 0, none⟩)), (8, .int .i64 0), (9, .int .i64 0), (10, .bool false), (11, .int .i64 x32.id), (12, .int .i64 (ltOf (bestR ps vs s x32.id cs))), (14, .pointer (some ⟨b42, 0, none⟩)), (16, .int .i64 (ltOf (bestR ps vs s x32.id cs))), (17, .bool true), (33, .bool false), (35, .slice A n c), (36, .int .i64 ((n : Nat) : Int)), (37, .int .i64 ((i : Nat) : Int)), (38, .bool true), (57, .bool true)] (fun U73 => ?_)
              refine h10 _ _ ?_
              refine W.region_quiet [(0, false), (1, false)] (by kernel_rfl) ?_
              refine W.q (v := .int .i64 ((i + 1 : Nat) : Int)) (hr := (r_add (m := ((i : Nat) : Int)) (n := 1) (z := ((i + 1 : Nat) : Int)) rfl (by kernel_rfl) (by kernel_rfl) (by omega) (by omega))) (h := ?_)
              refine W.mv (v := .int .i64 ((i + 1 : Nat) : Int)) (h := ?_)
              refine W.endF 66 [(0, .agg #[.int .i64 m, .slice A n c]), (1, .slice A2 n2 c2), (2, .int .i64 s), (3, .slice A4 n4 c4), (4, .pointer (some ⟨b2, 0, none⟩)), (8, .int .i64 0), (9, .int .i64 0), (10, .bool false), (11, .int .i64 x32.id), (12, .int .i64 (ltOf (bestR ps vs s x32.id cs))), (14, .pointer (some ⟨b42, 0, none⟩)), (16, .int .i64 (ltOf (bestR ps vs s x32.id cs))), (17, .bool true), (33, .bool false), (35, .slice A n c), (36, .int .i64 ((n : Nat) : Int)), (37, .int .i64 ((i + 1 : Nat) : Int)), (38, .bool true), (57, .bool true)] (fun U74 => ?_)
              have hl9 := lt_some q70
              exact h7 _ _ _ (by omega : (n - (i + 1)) < _) ⟨i + 1, x32.id, (ltOf (bestR ps vs s x32.id cs)), (fun iU9 => lk [(0, .agg #[.int .i64 m, .slice A n c]), (1, .slice A2 n2 c2), (2, .int .i64 s), (3, .slice A4 n4 c4), (4, .pointer (some ⟨b2, 0, none⟩)), (8, .int .i64 0), (9, .int .i64 0), (10, .bool false), (11, .int .i64 x32.id), (12, .int .i64 (ltOf (bestR ps vs s x32.id cs))), (14, .pointer (some ⟨b42, 0, none⟩)), (16, .int .i64 (ltOf (bestR ps vs s x32.id cs))), (17, .bool true), (33, .bool false), (35, .slice A n c), (36, .int .i64 ((n : Nat) : Int)), (37, .int .i64 ((i + 1 : Nat) : Int)), (38, .bool true), (57, .bool true)] iU9 (U74 iU9)), (by kernel_rfl), rfl, (by omega), ((worst_yes huz hx33 (by omega)).trans (by rw [hl9])), (by omega), x6, c69⟩
            · refine W.q (v := .bool false) (hr := (r_gtr (m := (ltOf (bestR ps vs s x32.id cs))) (n := z) rfl (by kernel_rfl) (by kernel_rfl) (decide_eq_false q71))) (h := ?_)
              refine W.q (v := .bool false) (hr := (r_pick (b := true) rfl (by kernel_rfl) (by kernel_rfl))) (h := ?_)
              refine W.endF 66 [(0, .agg #[.int .i64 m, .slice A n c]), (1, .slice A2 n2 c2), (2, .int .i64 s), (3, .slice A4 n4 c4), (4, .pointer (some ⟨b2, 0, none⟩)), (8, .int .i64 0), (9, .int .i64 0), (10, .bool false), (11, .int .i64 u), (12, .int .i64 z), (14, .pointer (some ⟨b42, 0, none⟩)), (16, .int .i64 (ltOf (bestR ps vs s x32.id cs))), (17, .bool true), (33, .bool false), (35, .slice A n c), (36, .int .i64 ((n : Nat) : Int)), (37, .int .i64 ((i : Nat) : Int)), (38, .bool true), (57, .bool false)] (fun U75 => ?_)
              refine h13 _ _ ?_
              refine wp_cond_false (by kernel_rfl) ?_
              refine wp_skip ?_
              refine h10 _ _ ?_
              refine W.region_quiet [(0, false), (1, false)] (by kernel_rfl) ?_
              refine W.q (v := .int .i64 ((i + 1 : Nat) : Int)) (hr := (r_add (m := ((i : Nat) : Int)) (n := 1) (z := ((i + 1 : Nat) : Int)) rfl (by kernel_rfl) (by kernel_rfl) (by omega) (by omega))) (h := ?_)
              refine W.mv (v := .int .i64 ((i + 1 : Nat) : Int)) (h := ?_)
              refine W.endF 66 [(0, .agg #[.int .i64 m, .slice A n c]), (1, .slice A2 n2 c2), (2, .int .i64 s), (3, .slice A4 n4 c4), (4, .pointer (some ⟨b2, 0, none⟩)), (8, .int .i64 0), (9, .int .i64 0), (10, .bool false), (11, .int .i64 u), (12, .int .i64 z), (14, .pointer (some ⟨b42, 0, none⟩)), (16, .int .i64 (ltOf (bestR ps vs s x32.id cs))), (17, .bool true), (33, .bool false), (35, .slice A n c), (36, .int .i64 ((n : Nat) : Int)), (37, .int .i64 ((i + 1 : Nat) : Int)), (38, .bool true), (57, .bool false)] (fun U76 => ?_)
              have hl9 := lt_some q70
              exact h7 _ _ _ (by omega : (n - (i + 1)) < _) ⟨i + 1, u, z, (fun iU9 => lk [(0, .agg #[.int .i64 m, .slice A n c]), (1, .slice A2 n2 c2), (2, .int .i64 s), (3, .slice A4 n4 c4), (4, .pointer (some ⟨b2, 0, none⟩)), (8, .int .i64 0), (9, .int .i64 0), (10, .bool false), (11, .int .i64 u), (12, .int .i64 z), (14, .pointer (some ⟨b42, 0, none⟩)), (16, .int .i64 (ltOf (bestR ps vs s x32.id cs))), (17, .bool true), (33, .bool false), (35, .slice A n c), (36, .int .i64 ((n : Nat) : Int)), (37, .int .i64 ((i + 1 : Nat) : Int)), (38, .bool true), (57, .bool false)] iU9 (U76 iU9)), (by kernel_rfl), rfl, (by omega), (worst_no huz hx33 (by omega)), hz, x6, c69⟩
          · rw [q70]
            refine W.sp rfl (h := ?_)
            refine W.sp rfl (h := ?_)
            refine W.sp rfl (h := ?_)
            refine W.q (v := .bool false) (hr := (r_pick (b := false) rfl (by kernel_rfl) (by kernel_rfl))) (h := ?_)
            refine W.endF 66 [(0, .agg #[.int .i64 m, .slice A n c]), (1, .slice A2 n2 c2), (2, .int .i64 s), (3, .slice A4 n4 c4), (4, .pointer (some ⟨b2, 0, none⟩)), (8, .int .i64 0), (9, .int .i64 0), (10, .bool false), (11, .int .i64 u), (12, .int .i64 z), (14, .pointer (some ⟨b42, 0, none⟩)), (16, .int .i64 (ltOf (bestR ps vs s x32.id cs))), (17, .bool false), (33, .bool false), (35, .slice A n c), (36, .int .i64 ((n : Nat) : Int)), (37, .int .i64 ((i : Nat) : Int)), (38, .bool true), (57, .bool false)] (fun U77 => ?_)
            refine h13 _ _ ?_
            refine wp_cond_false (by kernel_rfl) ?_
            refine wp_skip ?_
            refine h10 _ _ ?_
            refine W.region_quiet [(0, false), (1, false)] (by kernel_rfl) ?_
            refine W.q (v := .int .i64 ((i + 1 : Nat) : Int)) (hr := (r_add (m := ((i : Nat) : Int)) (n := 1) (z := ((i + 1 : Nat) : Int)) rfl (by kernel_rfl) (by kernel_rfl) (by omega) (by omega))) (h := ?_)
            refine W.mv (v := .int .i64 ((i + 1 : Nat) : Int)) (h := ?_)
            refine W.endF 66 [(0, .agg #[.int .i64 m, .slice A n c]), (1, .slice A2 n2 c2), (2, .int .i64 s), (3, .slice A4 n4 c4), (4, .pointer (some ⟨b2, 0, none⟩)), (8, .int .i64 0), (9, .int .i64 0), (10, .bool false), (11, .int .i64 u), (12, .int .i64 z), (14, .pointer (some ⟨b42, 0, none⟩)), (16, .int .i64 (ltOf (bestR ps vs s x32.id cs))), (17, .bool false), (33, .bool false), (35, .slice A n c), (36, .int .i64 ((n : Nat) : Int)), (37, .int .i64 ((i + 1 : Nat) : Int)), (38, .bool true), (57, .bool false)] (fun U78 => ?_)
            have hl9 := lt_none q70
            exact h7 _ _ _ (by omega : (n - (i + 1)) < _) ⟨i + 1, u, z, (fun iU9 => lk [(0, .agg #[.int .i64 m, .slice A n c]), (1, .slice A2 n2 c2), (2, .int .i64 s), (3, .slice A4 n4 c4), (4, .pointer (some ⟨b2, 0, none⟩)), (8, .int .i64 0), (9, .int .i64 0), (10, .bool false), (11, .int .i64 u), (12, .int .i64 z), (14, .pointer (some ⟨b42, 0, none⟩)), (16, .int .i64 (ltOf (bestR ps vs s x32.id cs))), (17, .bool false), (33, .bool false), (35, .slice A n c), (36, .int .i64 ((n : Nat) : Int)), (37, .int .i64 ((i + 1 : Nat) : Int)), (38, .bool true), (57, .bool false)] iU9 (U78 iU9)), (by kernel_rfl), rfl, (by omega), (worst_no huz hx33 (by omega)), hz, x6, c69⟩
        · refine W.q (v := .bool false) (hr := (r_lss (m := ((i : Nat) : Int)) (n := ((n : Nat) : Int)) rfl (by kernel_rfl) (by kernel_rfl) (decide_eq_false q29))) (h := ?_)
          refine W.endF 66 [(0, .agg #[.int .i64 m, .slice A n c]), (1, .slice A2 n2 c2), (2, .int .i64 s), (3, .slice A4 n4 c4), (4, .pointer (some ⟨b2, 0, none⟩)), (8, .int .i64 0), (9, .int .i64 0), (10, .bool false), (11, .int .i64 u), (12, .int .i64 z), (33, .bool false), (35, .slice A n c), (36, .int .i64 ((n : Nat) : Int)), (37, .int .i64 ((i : Nat) : Int)), (38, .bool false)] (fun U79 => ?_)
          refine h8 _ _ ?_
          refine wp_seq_k (fun K14 h14 => ?_)
          refine wp_cond_false (by kernel_rfl) ?_
          refine wp_exit ?_
          refine h5 _ _ ?_
          refine wp_seq_k (fun K15 h15 => ?_)
          refine wp_seq_k (fun K16 h16 => ?_)
          refine W.region_quiet [(0, false), (1, false)] (by kernel_rfl) ?_
          refine W.mv (v := .int .i64 z) (h := ?_)
          by_cases q80 : (z : Int) < (0 : Int)
          · refine W.q (v := .bool true) (hr := (r_lss (m := z) (n := 0) rfl (by kernel_rfl) (by kernel_rfl) (decide_eq_true q80))) (h := ?_)
            refine W.endF 66 [(0, .agg #[.int .i64 m, .slice A n c]), (1, .slice A2 n2 c2), (2, .int .i64 s), (3, .slice A4 n4 c4), (4, .pointer (some ⟨b2, 0, none⟩)), (8, .int .i64 0), (9, .int .i64 0), (10, .bool false), (11, .int .i64 u), (12, .int .i64 z), (33, .bool false), (35, .slice A n c), (36, .int .i64 ((n : Nat) : Int)), (37, .int .i64 ((i : Nat) : Int)), (38, .bool false), (63, .bool true)] (fun U81 => ?_)
            refine h16 _ _ ?_
            refine wp_cond_true (by kernel_rfl) ?_
            refine wp_seq_k (fun K17 h17 => ?_)
            refine W.region_quiet [(0, false), (1, false), (2, false)] (by kernel_rfl) ?_
            refine W.as (v := .int .i64 0) (h := ?_)
            refine W.as (v := .int .i64 0) (h := ?_)
            refine W.as (v := .bool false) (h := ?_)
            refine W.endF 66 [(0, .agg #[.int .i64 m, .slice A n c]), (1, .slice A2 n2 c2), (2, .int .i64 s), (3, .slice A4 n4 c4), (4, .pointer (some ⟨b2, 0, none⟩)), (8, .int .i64 0), (9, .int .i64 0), (10, .bool false), (11, .int .i64 u), (12, .int .i64 z), (33, .bool false), (35, .slice A n c), (36, .int .i64 ((n : Nat) : Int)), (37, .int .i64 ((i : Nat) : Int)), (38, .bool false), (63, .bool true)] (fun U82 => ?_)
            refine h17 _ _ ?_
            refine wp_ret ?_
            try simp only [Exit.then]
            refine ret3 (v := .int .i64 0) (x := .int .i64 0) (y := .bool false) rfl (by kernel_rfl) (by kernel_rfl) (by kernel_rfl) ?_
            have e6 : worstR ps vs s cs = (u, z) := by unfold worstR; rw [show ps.length = i by omega]; exact huz
            have e5 : decide (0 ≤ (worstR ps vs s cs).2) = false := by rw [e6]; exact decide_eq_false (show ¬ 0 ≤ z by omega)
            have e8 : WorstBurst_v2 m ps vs s cs = false := by unfold WorstBurst_v2; rw [q15, q19, q23, e5]; rfl
            exact ⟨by unfold WorstBurst_v0 WorstBurst_v1; rw [if_neg (by rw [e8]; simp), if_neg (by rw [e8]; simp), e8], c28⟩
          · refine W.q (v := .bool false) (hr := (r_lss (m := z) (n := 0) rfl (by kernel_rfl) (by kernel_rfl) (decide_eq_false q80))) (h := ?_)
            refine W.endF 66 [(0, .agg #[.int .i64 m, .slice A n c]), (1, .slice A2 n2 c2), (2, .int .i64 s), (3, .slice A4 n4 c4), (4, .pointer (some ⟨b2, 0, none⟩)), (8, .int .i64 0), (9, .int .i64 0), (10, .bool false), (11, .int .i64 u), (12, .int .i64 z), (33, .bool false), (35, .slice A n c), (36, .int .i64 ((n : Nat) : Int)), (37, .int .i64 ((i : Nat) : Int)), (38, .bool false), (63, .bool false)] (fun U83 => ?_)
            refine h16 _ _ ?_
            refine wp_cond_false (by kernel_rfl) ?_
            refine wp_skip ?_
            refine h15 _ _ ?_
            refine wp_seq_k (fun K18 h18 => ?_)
            refine W.region_quiet [(0, false), (1, false), (2, false), (3, false), (4, false)] (by kernel_rfl) ?_
            refine W.mv (v := .int .i64 u) (h := ?_)
            refine W.mv (v := .int .i64 z) (h := ?_)
            refine W.as (v := .int .i64 u) (h := ?_)
            refine W.as (v := .int .i64 z) (h := ?_)
            refine W.as (v := .bool true) (h := ?_)
            refine W.endF 66 [(0, .agg #[.int .i64 m, .slice A n c]), (1, .slice A2 n2 c2), (2, .int .i64 s), (3, .slice A4 n4 c4), (4, .pointer (some ⟨b2, 0, none⟩)), (8, .int .i64 u), (9, .int .i64 z), (10, .bool true), (11, .int .i64 u), (12, .int .i64 z), (33, .bool false), (35, .slice A n c), (36, .int .i64 ((n : Nat) : Int)), (37, .int .i64 ((i : Nat) : Int)), (38, .bool false), (63, .bool false)] (fun U84 => ?_)
            refine h18 _ _ ?_
            refine wp_ret ?_
            try simp only [Exit.then]
            refine ret3 (v := .int .i64 u) (x := .int .i64 z) (y := .bool true) rfl (by kernel_rfl) (by kernel_rfl) (by kernel_rfl) ?_
            have e6 : worstR ps vs s cs = (u, z) := by unfold worstR; rw [show ps.length = i by omega]; exact huz
            have e5 : decide (0 ≤ (worstR ps vs s cs).2) = true := by rw [e6]; exact decide_eq_true (show 0 ≤ z by omega)
            have e8 : WorstBurst_v2 m ps vs s cs = true := by unfold WorstBurst_v2; rw [q15, q19, q23, e5]; rfl
            exact ⟨by unfold WorstBurst_v0 WorstBurst_v1; rw [if_pos e8, if_pos e8, e6, e8], c28⟩
      · rw [q23]
        refine W.q (v := .bool true) (hr := (r_not (b := false) rfl (by kernel_rfl) rfl)) (h := ?_)
        refine W.q (v := .bool true) (hr := (r_pick (b := false) rfl (by kernel_rfl) (by kernel_rfl))) (h := ?_)
        refine W.endF 66 [(0, .agg #[.int .i64 m, .slice A n c]), (1, .slice A2 n2 c2), (2, .int .i64 s), (3, .slice A4 n4 c4), (4, .pointer (some ⟨b2, 0, none⟩)), (8, .int .i64 0), (9, .int .i64 0), (10, .bool false), (33, .bool true)] (fun U85 => ?_)
        have x6 := SG.blk s22 x6 (by simp)
        have c86 := (SG.belowR c10 s22 (fun kq e => by cases e))
        refine h3 _ _ ?_
        refine wp_cond_true (by kernel_rfl) ?_
        refine wp_seq_k (fun K19 h19 => ?_)
        refine W.region_quiet [(0, false), (1, false), (2, false)] (by kernel_rfl) ?_
        refine W.as (v := .int .i64 0) (h := ?_)
        refine W.as (v := .int .i64 0) (h := ?_)
        refine W.as (v := .bool false) (h := ?_)
        refine W.endF 66 [(0, .agg #[.int .i64 m, .slice A n c]), (1, .slice A2 n2 c2), (2, .int .i64 s), (3, .slice A4 n4 c4), (4, .pointer (some ⟨b2, 0, none⟩)), (8, .int .i64 0), (9, .int .i64 0), (10, .bool false), (33, .bool true)] (fun U87 => ?_)
        refine h19 _ _ ?_
        refine wp_ret ?_
        try simp only [Exit.then]
        refine ret3 (v := .int .i64 0) (x := .int .i64 0) (y := .bool false) rfl (by kernel_rfl) (by kernel_rfl) (by kernel_rfl) ?_
        have e8 : WorstBurst_v2 m ps vs s cs = false := by unfold WorstBurst_v2; rw [q15, q19, q23]; rfl
        exact ⟨by unfold WorstBurst_v0 WorstBurst_v1; rw [if_neg (by rw [e8]; simp), if_neg (by rw [e8]; simp), e8], c86⟩
    · rw [q19]
      refine W.q (v := .bool true) (hr := (r_not (b := false) rfl (by kernel_rfl) rfl)) (h := ?_)
      refine W.q (v := .bool true) (hr := (r_pick (b := false) rfl (by kernel_rfl) (by kernel_rfl))) (h := ?_)
      refine W.mv (v := .bool true) (h := ?_)
      refine W.sp s18 (h := ?_)
      refine W.sp s18 (h := ?_)
      refine W.sp s18 (h := ?_)
      refine W.sp s18 (h := ?_)
      refine W.q (v := .bool true) (hr := (r_pick (b := true) rfl (by kernel_rfl) (by kernel_rfl))) (h := ?_)
      refine W.endF 66 [(0, .agg #[.int .i64 m, .slice A n c]), (1, .slice A2 n2 c2), (2, .int .i64 s), (3, .slice A4 n4 c4), (4, .pointer (some ⟨b2, 0, none⟩)), (8, .int .i64 0), (9, .int .i64 0), (10, .bool false), (33, .bool true)] (fun U88 => ?_)
      have x6 := SG.blk s18 x6 (by simp)
      have c89 := (SG.belowR c10 s18 (fun kq e => by cases e))
      refine h3 _ _ ?_
      refine wp_cond_true (by kernel_rfl) ?_
      refine wp_seq_k (fun K20 h20 => ?_)
      refine W.region_quiet [(0, false), (1, false), (2, false)] (by kernel_rfl) ?_
      refine W.as (v := .int .i64 0) (h := ?_)
      refine W.as (v := .int .i64 0) (h := ?_)
      refine W.as (v := .bool false) (h := ?_)
      refine W.endF 66 [(0, .agg #[.int .i64 m, .slice A n c]), (1, .slice A2 n2 c2), (2, .int .i64 s), (3, .slice A4 n4 c4), (4, .pointer (some ⟨b2, 0, none⟩)), (8, .int .i64 0), (9, .int .i64 0), (10, .bool false), (33, .bool true)] (fun U90 => ?_)
      refine h20 _ _ ?_
      refine wp_ret ?_
      try simp only [Exit.then]
      refine ret3 (v := .int .i64 0) (x := .int .i64 0) (y := .bool false) rfl (by kernel_rfl) (by kernel_rfl) (by kernel_rfl) ?_
      have e8 : WorstBurst_v2 m ps vs s cs = false := by unfold WorstBurst_v2; rw [q15, q19]; rfl
      exact ⟨by unfold WorstBurst_v0 WorstBurst_v1; rw [if_neg (by rw [e8]; simp), if_neg (by rw [e8]; simp), e8], c89⟩
  · rw [q15]
    refine W.q (v := .bool true) (hr := (r_not (b := false) rfl (by kernel_rfl) rfl)) (h := ?_)
    refine W.mv (v := .bool true) (h := ?_)
    refine W.sp s14 (h := ?_)
    refine W.sp s14 (h := ?_)
    refine W.sp s14 (h := ?_)
    refine W.sp s14 (h := ?_)
    refine W.q (v := .bool true) (hr := (r_pick (b := true) rfl (by kernel_rfl) (by kernel_rfl))) (h := ?_)
    refine W.mv (v := .bool true) (h := ?_)
    refine W.sp s14 (h := ?_)
    refine W.sp s14 (h := ?_)
    refine W.sp s14 (h := ?_)
    refine W.sp s14 (h := ?_)
    refine W.q (v := .bool true) (hr := (r_pick (b := true) rfl (by kernel_rfl) (by kernel_rfl))) (h := ?_)
    refine W.endF 66 [(0, .agg #[.int .i64 m, .slice A n c]), (1, .slice A2 n2 c2), (2, .int .i64 s), (3, .slice A4 n4 c4), (4, .pointer (some ⟨b2, 0, none⟩)), (8, .int .i64 0), (9, .int .i64 0), (10, .bool false), (33, .bool true)] (fun U91 => ?_)
    have x6 := SG.blk s14 x6 (by simp)
    have c92 := (SG.belowR c10 s14 (fun kq e => by cases e))
    refine h3 _ _ ?_
    refine wp_cond_true (by kernel_rfl) ?_
    refine wp_seq_k (fun K21 h21 => ?_)
    refine W.region_quiet [(0, false), (1, false), (2, false)] (by kernel_rfl) ?_
    refine W.as (v := .int .i64 0) (h := ?_)
    refine W.as (v := .int .i64 0) (h := ?_)
    refine W.as (v := .bool false) (h := ?_)
    refine W.endF 66 [(0, .agg #[.int .i64 m, .slice A n c]), (1, .slice A2 n2 c2), (2, .int .i64 s), (3, .slice A4 n4 c4), (4, .pointer (some ⟨b2, 0, none⟩)), (8, .int .i64 0), (9, .int .i64 0), (10, .bool false), (33, .bool true)] (fun U93 => ?_)
    refine h21 _ _ ?_
    refine wp_ret ?_
    try simp only [Exit.then]
    refine ret3 (v := .int .i64 0) (x := .int .i64 0) (y := .bool false) rfl (by kernel_rfl) (by kernel_rfl) (by kernel_rfl) ?_
    have e8 : WorstBurst_v2 m ps vs s cs = false := by unfold WorstBurst_v2; rw [q15]; rfl
    exact ⟨by unfold WorstBurst_v0 WorstBurst_v1; rw [if_neg (by rw [e8]; simp), if_neg (by rw [e8]; simp), e8], c92⟩

set_option maxRecDepth 100000 in
set_option maxHeartbeats 1000000 in
theorem WorstBurst_spec (m : Int) (A : Option Addr) (n c : Nat) (ps : List Pp) (A2 : Option Addr) (n2 c2 : Nat) (vs : List Vv) (s : Int) (A4 : Option Addr) (n4 c4 : Nat) (cs : List Int) (w : World) (ha : Rd w 4 A n (pipesV ps)) (hb : Rd w 4 A2 n2 (valvesV vs)) (hc4 : Rd w 1 A4 n4 (intsV cs)) (hn : n ≤ 1048576) (hn2 : n2 ≤ 1048576) (hn4 : n4 ≤ 1048576) (hfm : Fm A n c) (hfm2 : Fm A2 n2 c2) (hfc : Fm A4 n4 c4) :
    Calls Try.prog 37 #[.agg #[.int .i64 m, .slice A n c], .slice A2 n2 c2, .int .i64 s, .slice A4 n4 c4] w fun e w' => e = .returned (.tuple #[.int .i64 (WorstBurst_v0 m ps vs s cs), .int .i64 (WorstBurst_v1 m ps vs s cs), .bool (WorstBurst_v2 m ps vs s cs)]) ∧ Below w.heap.size w w' := by
  have hl := rd_pipes_len ha
  have hl2 := rd_valves_len hb
  have hl4 := rd_ints_len hc4
  go_enter Try.func37, Try.ntmps37
  refine wp_seq_k (fun K1 h1 => ?_)
  refine W.region_plain (row := none) [(0, true), (1, false), (2, false), (3, false)] (by kernel_rfl) ?_
  have s1 := SG.self w none
  refine W.sn (fun b => .pointer (some ⟨b, 0, none⟩)) #[.int .i64 m, .slice A n c] 32 s1 rfl (by kernel_rfl) rfl (fun _ => by kernel_rfl) (fun b2 w3 hb4 k5 x6 s7 => ?_)
  have lo8 : w.heap.size ≤ b2 := by have := ((SG.belowR (Below.refl _ _) s1 (fun kq e => by cases e))).size; omega
  refine W.as (v := .int .i64 0) (h := ?_)
  refine W.as (v := .int .i64 0) (h := ?_)
  refine W.as (v := .bool false) (h := ?_)
  refine W.endF 67 [(0, .agg #[.int .i64 m, .slice A n c]), (1, .slice A2 n2 c2), (2, .int .i64 s), (3, .slice A4 n4 c4), (4, .pointer (some ⟨b2, 0, none⟩)), (8, .int .i64 0), (9, .int .i64 0), (10, .bool false)] (fun U9 => ?_)
  have c10 := (SG.belowR (Below.refl _ _) s7 (fun kq e => by cases e))
  refine h1 _ _ ?_
  refine wp_seq_k (fun K2 h2 => ?_)
  refine wp_seq_k (fun K3 h3 => ?_)
  refine W.region_plain (row := none) [(0, false), (1, false), (2, true), (3, false), (4, false), (5, false), (6, false), (7, true), (8, false), (9, false), (10, false), (11, false), (12, false), (13, true), (14, false), (15, false)] (by kernel_rfl) ?_
  have s11 := SG.self w3 none
  refine W.q (v := .agg #[.int .i64 m, .slice A n c]) (hr := (r_load2 rfl (by kernel_rfl) (by kernel_rfl) (by kernel_rfl) (sgS (blk_cell (j := 0) x6 (by kernel_rfl)) (by simp)) (sgS (blk_cell (j := 1) x6 (by kernel_rfl)) (by simp)))) (h := ?_)
  refine W.mv (v := .slice A2 n2 c2) (h := ?_)
  refine W.sc (vs := [.agg #[.int .i64 m, .slice A n c], .slice A2 n2 c2]) rfl rfl (by kernel_rfl) (by kernel_rfl) (by kernel_rfl) rfl (l4Good_any m A n c ps A2 n2 c2 vs _ (Rd.kept ha (SG.belowR c10 s11 (fun kq e => by cases e))) (Rd.kept hb (SG.belowR c10 s11 (fun kq e => by cases e))) (by omega) (by omega)) ?_
  rintro e w13 ⟨rfl, b12⟩
  have s14 := SG.of_below s11 b12
  refine ⟨_, rfl, s14, ?_⟩
  rcases Bool.eq_false_or_eq_true (goodV m ps vs) with q15 | q15
  · rw [q15]
    have hv9 := goodV_of q15
    have hg := hv9.net
    have hgl := hg.lo
    have hgh := hg.hi
    have hp := hg.pipesIn
    have hlen10 := hg.len
    have hu := hv9.uniq
    have hvl := hv9.len
    refine W.q (v := .bool false) (hr := (r_not (b := true) rfl (by kernel_rfl) rfl)) (h := ?_)
    refine W.mv (v := .bool false) (h := ?_)
    refine W.q (v := .agg #[.int .i64 m, .slice A n c]) (hr := (r_load2 rfl (by kernel_rfl) (by kernel_rfl) (by kernel_rfl) (sgS (blk_cell (j := 0) x6 (by kernel_rfl)) (by simp)) (sgS (blk_cell (j := 1) x6 (by kernel_rfl)) (by simp)))) (h := ?_)
    refine W.mv (v := .int .i64 s) (h := ?_)
    refine W.sc (vs := [.agg #[.int .i64 m, .slice A n c], .int .i64 s]) rfl rfl (by kernel_rfl) (by kernel_rfl) (by kernel_rfl) rfl (l2Node_any m A n c ps s _ (Rd.kept ha (SG.belowR c10 s14 (fun kq e => by cases e))) (by omega)) ?_
    rintro e w17 ⟨rfl, b16⟩
    have s18 := SG.of_below s14 b16
    refine ⟨_, rfl, s18, ?_⟩
    rcases Bool.eq_false_or_eq_true (goodN m ps && inB s 1 m) with q19 | q19
    · rw [q19]
      have q20 : inB s 1 m = true := (Bool.and_eq_true_iff.1 q19).2
      have hs := inB_iff.1 q20
      refine W.q (v := .bool false) (hr := (r_not (b := true) rfl (by kernel_rfl) rfl)) (h := ?_)
      refine W.q (v := .bool false) (hr := (r_pick (b := false) rfl (by kernel_rfl) (by kernel_rfl))) (h := ?_)
      refine W.mv (v := .bool false) (h := ?_)
      refine W.q (v := .agg #[.int .i64 m, .slice A n c]) (hr := (r_load2 rfl (by kernel_rfl) (by kernel_rfl) (by kernel_rfl) (sgS (blk_cell (j := 0) x6 (by kernel_rfl)) (by simp)) (sgS (blk_cell (j := 1) x6 (by kernel_rfl)) (by simp)))) (h := ?_)
      refine W.mv (v := .slice A4 n4 c4) (h := ?_)
      refine W.sc (vs := [.agg #[.int .i64 m, .slice A n c], .slice A4 n4 c4]) rfl rfl (by kernel_rfl) (by kernel_rfl) (by kernel_rfl) rfl (l5Customers_any m A n c ps A4 n4 c4 cs _ (Rd.kept ha (SG.belowR c10 s18 (fun kq e => by cases e))) (by omega) (Rd.kept hc4 (SG.belowR c10 s18 (fun kq e => by cases e))) (by omega)) ?_
      rintro e w22 ⟨rfl, b21⟩
      have s23 := SG.of_below s18 b21
      refine ⟨_, rfl, s23, ?_⟩
      rcases Bool.eq_false_or_eq_true (custOk m cs) with q24 | q24
      · rw [q24]
        have hco := q24
        have hco9 := custOk_of hco
        refine W.q (v := .bool false) (hr := (r_not (b := true) rfl (by kernel_rfl) rfl)) (h := ?_)
        refine W.q (v := .bool false) (hr := (r_pick (b := false) rfl (by kernel_rfl) (by kernel_rfl))) (h := ?_)
        refine W.endF 67 [(0, .agg #[.int .i64 m, .slice A n c]), (1, .slice A2 n2 c2), (2, .int .i64 s), (3, .slice A4 n4 c4), (4, .pointer (some ⟨b2, 0, none⟩)), (8, .int .i64 0), (9, .int .i64 0), (10, .bool false), (31, .bool false)] (fun U25 => ?_)
        have x6 := SG.blk s23 x6 (by simp)
        have c26 := (SG.belowR c10 s23 (fun kq e => by cases e))
        refine h3 _ _ ?_
        refine wp_cond_false (by kernel_rfl) ?_
        refine wp_skip ?_
        refine h2 _ _ ?_
        refine wp_seq_k (fun K4 h4 => ?_)
        refine W.region_quiet [(0, false), (1, false)] (by kernel_rfl) ?_
        refine W.as (v := .int .i64 0) (h := ?_)
        refine W.as (v := .int .i64 (-1)) (h := ?_)
        refine W.endF 67 [(0, .agg #[.int .i64 m, .slice A n c]), (1, .slice A2 n2 c2), (2, .int .i64 s), (3, .slice A4 n4 c4), (4, .pointer (some ⟨b2, 0, none⟩)), (8, .int .i64 0), (9, .int .i64 0), (10, .bool false), (11, .int .i64 0), (12, .int .i64 (-1)), (31, .bool false)] (fun U27 => ?_)
        refine h4 _ _ ?_
        refine wp_seq_k (fun K5 h5 => ?_)
        refine wp_seq_k (fun K6 h6 => ?_)
        refine W.region_quiet [(0, false)] (by kernel_rfl) ?_
        refine W.as (v := .int .i64 0) (h := ?_)
        refine W.endF 67 [(0, .agg #[.int .i64 m, .slice A n c]), (1, .slice A2 n2 c2), (2, .int .i64 s), (3, .slice A4 n4 c4), (4, .pointer (some ⟨b2, 0, none⟩)), (8, .int .i64 0), (9, .int .i64 0), (10, .bool false), (11, .int .i64 0), (12, .int .i64 (-1)), (13, .int .i64 0), (31, .bool false)] (fun U28 => ?_)
        refine h6 _ _ ?_
        refine wp_block ?_
        refine loopK (fun am0 aa0 wl0 => ∃ (i : Nat) (u : Int) (z : Int) (U0 : Nat → Value), aa0 = ⟨(fr U0 [(0, .agg #[.int .i64 m, .slice A n c]), (1, .slice A2 n2 c2), (2, .int .i64 s), (3, .slice A4 n4 c4), (4, .pointer (some ⟨b2, 0, none⟩)), (8, .int .i64 0), (9, .int .i64 0), (10, .bool false), (11, .int .i64 u), (12, .int .i64 z), (13, .int .i64 ((i : Nat) : Int)), (31, .bool false)] 67 0).toArray, []⟩ ∧ (am0 = n - i) ∧ (i ≤ n) ∧ (worstTo ps vs s cs i = (u, z)) ∧ (-1 ≤ z) ∧ (wl0.heap[b2]? = some (.cells #[.int .i64 m, .slice A n c] 32 (0, 0))) ∧ (Below w.heap.size w wl0)) (n - 0) ?_ ?_
        · exact ⟨0, 0, -1, (fun iU9 => lk [(0, .agg #[.int .i64 m, .slice A n c]), (1, .slice A2 n2 c2), (2, .int .i64 s), (3, .slice A4 n4 c4), (4, .pointer (some ⟨b2, 0, none⟩)), (8, .int .i64 0), (9, .int .i64 0), (10, .bool false), (11, .int .i64 0), (12, .int .i64 (-1)), (13, .int .i64 0), (31, .bool false)] iU9 (U28 iU9)), (by kernel_rfl), rfl, (Nat.zero_le _), rfl, (by omega), x6, c26⟩
        rintro am0 aa0 wl0 K7 h7 ⟨i, u, z, U0, rfl, rfl, hi, huz, hz, x6, c29⟩
        refine wp_seq_k (fun K8 h8 => ?_)
        refine wp_seq_k (fun K9 h9 => ?_)
        refine W.region_quiet [(0, false), (1, false), (2, false), (3, false), (4, false)] (by kernel_rfl) ?_
        refine W.mv (v := .int .i64 ((i : Nat) : Int)) (h := ?_)
        refine W.q (v := .pointer (some ⟨b2, 1, none⟩)) (hr := (r_field (k := 1) rfl (by kernel_rfl) (by kernel_rfl))) (h := ?_)
        refine W.ld (v := .slice A n c) (hc := (eqS (blk_cell (j := 1) x6 (by kernel_rfl)))) (h := ?_)
        refine W.q (v := .int .i64 ((n : Nat) : Int)) (hr := (r_len (A := A) (n := n) (c := c) rfl (by kernel_rfl) (by kernel_rfl))) (h := ?_)
        by_cases q30 : (((i : Nat) : Int) : Int) < (((n : Nat) : Int) : Int)
        · refine W.q (v := .bool true) (hr := (r_lss (m := ((i : Nat) : Int)) (n := ((n : Nat) : Int)) rfl (by kernel_rfl) (by kernel_rfl) (decide_eq_true q30))) (h := ?_)
          refine W.endF 67 [(0, .agg #[.int .i64 m, .slice A n c]), (1, .slice A2 n2 c2), (2, .int .i64 s), (3, .slice A4 n4 c4), (4, .pointer (some ⟨b2, 0, none⟩)), (8, .int .i64 0), (9, .int .i64 0), (10, .bool false), (11, .int .i64 u), (12, .int .i64 z), (13, .int .i64 ((i : Nat) : Int)), (31, .bool false), (36, .bool true)] (fun U31 => ?_)
          refine h9 _ _ ?_
          refine wp_cond_true (by kernel_rfl) ?_
          refine wp_skip ?_
          refine h8 _ _ ?_
          refine wp_seq_k (fun K10 h10 => ?_)
          refine wp_block ?_
          refine wp_seq_k (fun K11 h11 => ?_)
          refine W.region_sch (row := none) (Sch.of [(0, false), (1, false), (2, false), (3, false), (4, false), (5, false), (6, false), (7, false), (8, false), (9, false), (10, true), (11, false), (12, false), (13, false), (14, false), (15, false)]) (by kernel_rfl) (by kernel_rfl) (fun _ d _ _ _ h => by cases d <;> exact h) (by kernel_rfl) (fun w32 e33 s34 => ?_)
          refine W.q (v := .agg #[.int .i64 m, .slice A n c]) (hr := (r_load2 rfl (by kernel_rfl) (by kernel_rfl) (by kernel_rfl) (sgS (blk_cell (j := 0) x6 (by kernel_rfl)) (by simp)) (sgS (blk_cell (j := 1) x6 (by kernel_rfl)) (by simp)))) (h := ?_)
          refine W.mv (v := .slice A2 n2 c2) (h := ?_)
          refine W.mv (v := .int .i64 s) (h := ?_)
          refine W.q (v := .pointer (some ⟨b2, 1, none⟩)) (hr := (r_field (k := 1) rfl (by kernel_rfl) (by kernel_rfl))) (h := ?_)
          refine W.ld (v := .slice A n c) (hc := (sgS (blk_cell (j := 1) x6 (by kernel_rfl)) (by simp))) (h := ?_)
          refine W.mv (v := .int .i64 ((i : Nat) : Int)) (h := ?_)
          obtain ⟨x35, hx36⟩ := get_of (zs := ps) (k := i) (by have := hl; omega)
          obtain ⟨b37, o38, hA39, hb40, hc41, hc42, hc43, hc44⟩ := Rd.elPipe ha hx36
          refine W.q (v := .pointer (some ⟨b37, o38 + i * 4, none⟩)) (hr := (r_idx (n := n) (c := c) (k := i) rfl (by kernel_rfl) hA39 (by kernel_rfl) (by kernel_rfl) (by have := hl; omega))) (h := ?_)
          refine W.q (v := .pointer (some ⟨b37, o38 + i * 4, none⟩)) (hr := (r_field0 rfl (by kernel_rfl) (by kernel_rfl))) (h := ?_)
          refine W.ld (v := .int .i64 x35.id) (hc := (sgS (later c29 hc41) (by simp))) (h := ?_)
          refine W.mv (v := .slice A4 n4 c4) (h := ?_)
          have z50 := ((SG.belowR c29 s34 (fun kq e => by cases e))).size
          refine W.sc (vs := [.agg #[.int .i64 m, .slice A n c], .slice A2 n2 c2, .int .i64 s, .int .i64 x35.id, .slice A4 n4 c4]) rfl rfl (by kernel_rfl) (by kernel_rfl) (by kernel_rfl) rfl (l5Best_any m A n c ps A2 n2 c2 vs s x35.id A4 n4 c4 cs _ (Rd.kept ha (SG.belowR c29 s34 (fun kq e => by cases e))) (Rd.kept hb (SG.belowR c29 s34 (fun kq e => by cases e))) (by omega) (by omega) hfm2 hv9 hs (findL_pos' (List.mem_of_getElem? hx36)) (Rd.kept hc4 (SG.belowR c29 s34 (fun kq e => by cases e))) (by omega) hco9.2 (.inr hco)) ?_
          rintro e w53 ⟨A45, n46, c47, rfl, ho48, b52⟩
          have s54 := SG.of_below s34 b52
          refine ⟨_, rfl, s54, ?_⟩
          have nb55 : Nb b2 (.slice A45 n46 c47) := nb_lo ho48 (Nat.lt_of_lt_of_le (blk_lt x6) (World.grownBy.size s34))
          have ho49 := own_base (base' := w.heap.size) ho48 z50
          refine W.mv (v := .tuple #[.slice A45 n46 c47, .int .i64 (leastOf (bestR ps vs s x35.id cs))]) (h := ?_)
          refine W.q (v := .slice A45 n46 c47) (hr := (r_extract (vs := #[.slice A45 n46 c47, .int .i64 (leastOf (bestR ps vs s x35.id cs))]) rfl (by kernel_rfl) (by kernel_rfl))) (h := ?_)
          refine W.q (v := .int .i64 (leastOf (bestR ps vs s x35.id cs))) (hr := (r_extract (vs := #[.slice A45 n46 c47, .int .i64 (leastOf (bestR ps vs s x35.id cs))]) rfl (by kernel_rfl) (by kernel_rfl))) (h := ?_)
          refine W.as (v := .slice A45 n46 c47) (h := ?_)
          refine W.as (v := .int .i64 (leastOf (bestR ps vs s x35.id cs))) (h := ?_)
          refine W.endF 67 [(0, .agg #[.int .i64 m, .slice A n c]), (1, .slice A2 n2 c2), (2, .int .i64 s), (3, .slice A4 n4 c4), (4, .pointer (some ⟨b2, 0, none⟩)), (8, .int .i64 0), (9, .int .i64 0), (10, .bool false), (11, .int .i64 u), (12, .int .i64 z), (13, .int .i64 ((i : Nat) : Int)), (15, .int .i64 (leastOf (bestR ps vs s x35.id cs))), (31, .bool false), (36, .bool true)] (fun U56 => ?_)
          have x6 := SG.blk s54 x6 (by simp)
          have c57 := (SG.belowR c29 s54 (fun kq e => by cases e))
          refine h11 _ _ ?_
          refine wp_seq_k (fun K12 h12 => ?_)
          refine W.region_quiet [(0, false), (1, false), (2, false)] (by kernel_rfl) ?_
          refine W.mv (v := .int .i64 (leastOf (bestR ps vs s x35.id cs))) (h := ?_)
          refine W.mv (v := .int .i64 z) (h := ?_)
          by_cases q58 : ((leastOf (bestR ps vs s x35.id cs)) : Int) > (z : Int)
          · refine W.q (v := .bool true) (hr := (r_gtr (m := (leastOf (bestR ps vs s x35.id cs))) (n := z) rfl (by kernel_rfl) (by kernel_rfl) (decide_eq_true q58))) (h := ?_)
            refine W.endF 67 [(0, .agg #[.int .i64 m, .slice A n c]), (1, .slice A2 n2 c2), (2, .int .i64 s), (3, .slice A4 n4 c4), (4, .pointer (some ⟨b2, 0, none⟩)), (8, .int .i64 0), (9, .int .i64 0), (10, .bool false), (11, .int .i64 u), (12, .int .i64 z), (13, .int .i64 ((i : Nat) : Int)), (15, .int .i64 (leastOf (bestR ps vs s x35.id cs))), (31, .bool false), (36, .bool true), (55, .bool true)] (fun U59 => ?_)
            refine h12 _ _ ?_
            refine wp_cond_true (by kernel_rfl) ?_
            refine wp_seq_k (fun K13 h13 => ?_)
            refine W.region_quiet [(0, false), (1, false), (2, false), (3, false), (4, false), (5, false), (6, false)] (by kernel_rfl) ?_
            refine W.q (v := .pointer (some ⟨b2, 1, none⟩)) (hr := (r_field (k := 1) rfl (by kernel_rfl) (by kernel_rfl))) (h := ?_)
            refine W.ld (v := .slice A n c) (hc := (eqS (blk_cell (j := 1) x6 (by kernel_rfl)))) (h := ?_)
            refine W.mv (v := .int .i64 ((i : Nat) : Int)) (h := ?_)
            refine W.q (v := .pointer (some ⟨b37, o38 + i * 4, none⟩)) (hr := (r_idx (n := n) (c := c) (k := i) rfl (by kernel_rfl) hA39 (by kernel_rfl) (by kernel_rfl) (by have := hl; omega))) (h := ?_)
            refine W.q (v := .pointer (some ⟨b37, o38 + i * 4, none⟩)) (hr := (r_field0 rfl (by kernel_rfl) (by kernel_rfl))) (h := ?_)
            refine W.ld (v := .int .i64 x35.id) (hc := (eqS (later c57 hc41))) (h := ?_)
            refine W.as (v := .int .i64 x35.id) (h := ?_)
            refine W.endF 67 [(0, .agg #[.int .i64 m, .slice A n c]), (1, .slice A2 n2 c2), (2, .int .i64 s), (3, .slice A4 n4 c4), (4, .pointer (some ⟨b2, 0, none⟩)), (8, .int .i64 0), (9, .int .i64 0), (10, .bool false), (11, .int .i64 x35.id), (12, .int .i64 z), (13, .int .i64 ((i : Nat) : Int)), (15, .int .i64 (leastOf (bestR ps vs s x35.id cs))), (31, .bool false), (36, .bool true), (55, .bool true)] (fun U60 => ?_)
            refine h13 _ _ ?_
            refine W.region_quiet [(0, false), (1, false)] (by kernel_rfl) ?_
            refine W.mv (v := .int .i64 (leastOf (bestR ps vs s x35.id cs))) (h := ?_)
            refine W.as (v := .int .i64 (leastOf (bestR ps vs s x35.id cs))) (h := ?_)
            refine W.endF 67 [(0, .agg #[.int .i64 m, .slice A n c]), (1, .slice A2 n2 c2), (2, .int .i64 s), (3, .slice A4 n4 c4), (4, .pointer (some ⟨b2, 0, none⟩)), (8, .int .i64 0), (9, .int .i64 0), (10, .bool false), (11, .int .i64 x35.id), (12, .int .i64 (leastOf (bestR ps vs s x35.id cs))), (13, .int .i64 ((i : Nat) : Int)), (15, .int .i64 (leastOf (bestR ps vs s x35.id cs))), (31, .bool false), (36, .bool true), (55, .bool true)] (fun U61 => ?_)
            refine h10 _ _ ?_
            refine W.region_quiet [(0, false), (1, false), (2, false)] (by kernel_rfl) ?_
            refine W.mv (v := .int .i64 ((i : Nat) : Int)) (h := ?_)
            refine W.q (v := .int .i64 ((i + 1 : Nat) : Int)) (hr := (r_add (m := ((i : Nat) : Int)) (n := 1) (z := ((i + 1 : Nat) : Int)) rfl (by kernel_rfl) (by kernel_rfl) (by omega) (by omega))) (h := ?_)
            refine W.as (v := .int .i64 ((i + 1 : Nat) : Int)) (h := ?_)
            refine W.endF 67 [(0, .agg #[.int .i64 m, .slice A n c]), (1, .slice A2 n2 c2), (2, .int .i64 s), (3, .slice A4 n4 c4), (4, .pointer (some ⟨b2, 0, none⟩)), (8, .int .i64 0), (9, .int .i64 0), (10, .bool false), (11, .int .i64 x35.id), (12, .int .i64 (leastOf (bestR ps vs s x35.id cs))), (13, .int .i64 ((i + 1 : Nat) : Int)), (15, .int .i64 (leastOf (bestR ps vs s x35.id cs))), (31, .bool false), (36, .bool true), (55, .bool true)] (fun U62 => ?_)
            exact h7 _ _ _ (by omega : (n - (i + 1)) < _) ⟨i + 1, x35.id, (leastOf (bestR ps vs s x35.id cs)), (fun iU9 => lk [(0, .agg #[.int .i64 m, .slice A n c]), (1, .slice A2 n2 c2), (2, .int .i64 s), (3, .slice A4 n4 c4), (4, .pointer (some ⟨b2, 0, none⟩)), (8, .int .i64 0), (9, .int .i64 0), (10, .bool false), (11, .int .i64 x35.id), (12, .int .i64 (leastOf (bestR ps vs s x35.id cs))), (13, .int .i64 ((i + 1 : Nat) : Int)), (15, .int .i64 (leastOf (bestR ps vs s x35.id cs))), (31, .bool false), (36, .bool true), (55, .bool true)] iU9 (U62 iU9)), (by kernel_rfl), rfl, (by omega), (worst_yes huz hx36 (by omega)), (by omega), x6, c57⟩
          · refine W.q (v := .bool false) (hr := (r_gtr (m := (leastOf (bestR ps vs s x35.id cs))) (n := z) rfl (by kernel_rfl) (by kernel_rfl) (decide_eq_false q58))) (h := ?_)
            refine W.endF 67 [(0, .agg #[.int .i64 m, .slice A n c]), (1, .slice A2 n2 c2), (2, .int .i64 s), (3, .slice A4 n4 c4), (4, .pointer (some ⟨b2, 0, none⟩)), (8, .int .i64 0), (9, .int .i64 0), (10, .bool false), (11, .int .i64 u), (12, .int .i64 z), (13, .int .i64 ((i : Nat) : Int)), (15, .int .i64 (leastOf (bestR ps vs s x35.id cs))), (31, .bool false), (36, .bool true), (55, .bool false)] (fun U63 => ?_)
            refine h12 _ _ ?_
            refine wp_cond_false (by kernel_rfl) ?_
            refine wp_skip ?_
            refine h10 _ _ ?_
            refine W.region_quiet [(0, false), (1, false), (2, false)] (by kernel_rfl) ?_
            refine W.mv (v := .int .i64 ((i : Nat) : Int)) (h := ?_)
            refine W.q (v := .int .i64 ((i + 1 : Nat) : Int)) (hr := (r_add (m := ((i : Nat) : Int)) (n := 1) (z := ((i + 1 : Nat) : Int)) rfl (by kernel_rfl) (by kernel_rfl) (by omega) (by omega))) (h := ?_)
            refine W.as (v := .int .i64 ((i + 1 : Nat) : Int)) (h := ?_)
            refine W.endF 67 [(0, .agg #[.int .i64 m, .slice A n c]), (1, .slice A2 n2 c2), (2, .int .i64 s), (3, .slice A4 n4 c4), (4, .pointer (some ⟨b2, 0, none⟩)), (8, .int .i64 0), (9, .int .i64 0), (10, .bool false), (11, .int .i64 u), (12, .int .i64 z), (13, .int .i64 ((i + 1 : Nat) : Int)), (15, .int .i64 (leastOf (bestR ps vs s x35.id cs))), (31, .bool false), (36, .bool true), (55, .bool false)] (fun U64 => ?_)
            exact h7 _ _ _ (by omega : (n - (i + 1)) < _) ⟨i + 1, u, z, (fun iU9 => lk [(0, .agg #[.int .i64 m, .slice A n c]), (1, .slice A2 n2 c2), (2, .int .i64 s), (3, .slice A4 n4 c4), (4, .pointer (some ⟨b2, 0, none⟩)), (8, .int .i64 0), (9, .int .i64 0), (10, .bool false), (11, .int .i64 u), (12, .int .i64 z), (13, .int .i64 ((i + 1 : Nat) : Int)), (15, .int .i64 (leastOf (bestR ps vs s x35.id cs))), (31, .bool false), (36, .bool true), (55, .bool false)] iU9 (U64 iU9)), (by kernel_rfl), rfl, (by omega), (worst_no huz hx36 (by omega)), hz, x6, c57⟩
        · refine W.q (v := .bool false) (hr := (r_lss (m := ((i : Nat) : Int)) (n := ((n : Nat) : Int)) rfl (by kernel_rfl) (by kernel_rfl) (decide_eq_false q30))) (h := ?_)
          refine W.endF 67 [(0, .agg #[.int .i64 m, .slice A n c]), (1, .slice A2 n2 c2), (2, .int .i64 s), (3, .slice A4 n4 c4), (4, .pointer (some ⟨b2, 0, none⟩)), (8, .int .i64 0), (9, .int .i64 0), (10, .bool false), (11, .int .i64 u), (12, .int .i64 z), (13, .int .i64 ((i : Nat) : Int)), (31, .bool false), (36, .bool false)] (fun U65 => ?_)
          refine h9 _ _ ?_
          refine wp_cond_false (by kernel_rfl) ?_
          refine wp_exit ?_
          refine h5 _ _ ?_
          refine wp_seq_k (fun K14 h14 => ?_)
          refine wp_seq_k (fun K15 h15 => ?_)
          refine W.region_quiet [(0, false), (1, false)] (by kernel_rfl) ?_
          refine W.mv (v := .int .i64 z) (h := ?_)
          by_cases q66 : (z : Int) < (0 : Int)
          · refine W.q (v := .bool true) (hr := (r_lss (m := z) (n := 0) rfl (by kernel_rfl) (by kernel_rfl) (decide_eq_true q66))) (h := ?_)
            refine W.endF 67 [(0, .agg #[.int .i64 m, .slice A n c]), (1, .slice A2 n2 c2), (2, .int .i64 s), (3, .slice A4 n4 c4), (4, .pointer (some ⟨b2, 0, none⟩)), (8, .int .i64 0), (9, .int .i64 0), (10, .bool false), (11, .int .i64 u), (12, .int .i64 z), (13, .int .i64 ((i : Nat) : Int)), (31, .bool false), (36, .bool false), (64, .bool true)] (fun U67 => ?_)
            refine h15 _ _ ?_
            refine wp_cond_true (by kernel_rfl) ?_
            refine wp_seq_k (fun K16 h16 => ?_)
            refine W.region_quiet [(0, false), (1, false), (2, false)] (by kernel_rfl) ?_
            refine W.as (v := .int .i64 0) (h := ?_)
            refine W.as (v := .int .i64 0) (h := ?_)
            refine W.as (v := .bool false) (h := ?_)
            refine W.endF 67 [(0, .agg #[.int .i64 m, .slice A n c]), (1, .slice A2 n2 c2), (2, .int .i64 s), (3, .slice A4 n4 c4), (4, .pointer (some ⟨b2, 0, none⟩)), (8, .int .i64 0), (9, .int .i64 0), (10, .bool false), (11, .int .i64 u), (12, .int .i64 z), (13, .int .i64 ((i : Nat) : Int)), (31, .bool false), (36, .bool false), (64, .bool true)] (fun U68 => ?_)
            refine h16 _ _ ?_
            refine wp_ret ?_
            try simp only [Exit.then]
            refine ret3 (v := .int .i64 0) (x := .int .i64 0) (y := .bool false) rfl (by kernel_rfl) (by kernel_rfl) (by kernel_rfl) ?_
            have e6 : worstR ps vs s cs = (u, z) := by unfold worstR; rw [show ps.length = i by omega]; exact huz
            have e5 : decide (0 ≤ (worstR ps vs s cs).2) = false := by rw [e6]; exact decide_eq_false (show ¬ 0 ≤ z by omega)
            have e8 : WorstBurst_v2 m ps vs s cs = false := by unfold WorstBurst_v2; rw [q15, q20, q24, e5]; rfl
            exact ⟨by unfold WorstBurst_v0 WorstBurst_v1; rw [if_neg (by rw [e8]; simp), if_neg (by rw [e8]; simp), e8], c29⟩
          · refine W.q (v := .bool false) (hr := (r_lss (m := z) (n := 0) rfl (by kernel_rfl) (by kernel_rfl) (decide_eq_false q66))) (h := ?_)
            refine W.endF 67 [(0, .agg #[.int .i64 m, .slice A n c]), (1, .slice A2 n2 c2), (2, .int .i64 s), (3, .slice A4 n4 c4), (4, .pointer (some ⟨b2, 0, none⟩)), (8, .int .i64 0), (9, .int .i64 0), (10, .bool false), (11, .int .i64 u), (12, .int .i64 z), (13, .int .i64 ((i : Nat) : Int)), (31, .bool false), (36, .bool false), (64, .bool false)] (fun U69 => ?_)
            refine h15 _ _ ?_
            refine wp_cond_false (by kernel_rfl) ?_
            refine wp_skip ?_
            refine h14 _ _ ?_
            refine wp_seq_k (fun K17 h17 => ?_)
            refine W.region_quiet [(0, false), (1, false), (2, false), (3, false), (4, false)] (by kernel_rfl) ?_
            refine W.mv (v := .int .i64 u) (h := ?_)
            refine W.mv (v := .int .i64 z) (h := ?_)
            refine W.as (v := .int .i64 u) (h := ?_)
            refine W.as (v := .int .i64 z) (h := ?_)
            refine W.as (v := .bool true) (h := ?_)
            refine W.endF 67 [(0, .agg #[.int .i64 m, .slice A n c]), (1, .slice A2 n2 c2), (2, .int .i64 s), (3, .slice A4 n4 c4), (4, .pointer (some ⟨b2, 0, none⟩)), (8, .int .i64 u), (9, .int .i64 z), (10, .bool true), (11, .int .i64 u), (12, .int .i64 z), (13, .int .i64 ((i : Nat) : Int)), (31, .bool false), (36, .bool false), (64, .bool false)] (fun U70 => ?_)
            refine h17 _ _ ?_
            refine wp_ret ?_
            try simp only [Exit.then]
            refine ret3 (v := .int .i64 u) (x := .int .i64 z) (y := .bool true) rfl (by kernel_rfl) (by kernel_rfl) (by kernel_rfl) ?_
            have e6 : worstR ps vs s cs = (u, z) := by unfold worstR; rw [show ps.length = i by omega]; exact huz
            have e5 : decide (0 ≤ (worstR ps vs s cs).2) = true := by rw [e6]; exact decide_eq_true (show 0 ≤ z by omega)
            have e8 : WorstBurst_v2 m ps vs s cs = true := by unfold WorstBurst_v2; rw [q15, q20, q24, e5]; rfl
            exact ⟨by unfold WorstBurst_v0 WorstBurst_v1; rw [if_pos e8, if_pos e8, e6, e8], c29⟩
      · rw [q24]
        refine W.q (v := .bool true) (hr := (r_not (b := false) rfl (by kernel_rfl) rfl)) (h := ?_)
        refine W.q (v := .bool true) (hr := (r_pick (b := false) rfl (by kernel_rfl) (by kernel_rfl))) (h := ?_)
        refine W.endF 67 [(0, .agg #[.int .i64 m, .slice A n c]), (1, .slice A2 n2 c2), (2, .int .i64 s), (3, .slice A4 n4 c4), (4, .pointer (some ⟨b2, 0, none⟩)), (8, .int .i64 0), (9, .int .i64 0), (10, .bool false), (31, .bool true)] (fun U71 => ?_)
        have x6 := SG.blk s23 x6 (by simp)
        have c72 := (SG.belowR c10 s23 (fun kq e => by cases e))
        refine h3 _ _ ?_
        refine wp_cond_true (by kernel_rfl) ?_
        refine wp_seq_k (fun K18 h18 => ?_)
        refine W.region_quiet [(0, false), (1, false), (2, false)] (by kernel_rfl) ?_
        refine W.as (v := .int .i64 0) (h := ?_)
        refine W.as (v := .int .i64 0) (h := ?_)
        refine W.as (v := .bool false) (h := ?_)
        refine W.endF 67 [(0, .agg #[.int .i64 m, .slice A n c]), (1, .slice A2 n2 c2), (2, .int .i64 s), (3, .slice A4 n4 c4), (4, .pointer (some ⟨b2, 0, none⟩)), (8, .int .i64 0), (9, .int .i64 0), (10, .bool false), (31, .bool true)] (fun U73 => ?_)
        refine h18 _ _ ?_
        refine wp_ret ?_
        try simp only [Exit.then]
        refine ret3 (v := .int .i64 0) (x := .int .i64 0) (y := .bool false) rfl (by kernel_rfl) (by kernel_rfl) (by kernel_rfl) ?_
        have e8 : WorstBurst_v2 m ps vs s cs = false := by unfold WorstBurst_v2; rw [q15, q20, q24]; rfl
        exact ⟨by unfold WorstBurst_v0 WorstBurst_v1; rw [if_neg (by rw [e8]; simp), if_neg (by rw [e8]; simp), e8], c72⟩
    · rw [q19]
      have q74 : inB s 1 m = false := by have h9 := q19; rw [hv9.good, Bool.true_and] at h9; exact h9
      refine W.q (v := .bool true) (hr := (r_not (b := false) rfl (by kernel_rfl) rfl)) (h := ?_)
      refine W.q (v := .bool true) (hr := (r_pick (b := false) rfl (by kernel_rfl) (by kernel_rfl))) (h := ?_)
      refine W.mv (v := .bool true) (h := ?_)
      refine W.sp s18 (h := ?_)
      refine W.sp s18 (h := ?_)
      refine W.sp s18 (h := ?_)
      refine W.sp s18 (h := ?_)
      refine W.q (v := .bool true) (hr := (r_pick (b := true) rfl (by kernel_rfl) (by kernel_rfl))) (h := ?_)
      refine W.endF 67 [(0, .agg #[.int .i64 m, .slice A n c]), (1, .slice A2 n2 c2), (2, .int .i64 s), (3, .slice A4 n4 c4), (4, .pointer (some ⟨b2, 0, none⟩)), (8, .int .i64 0), (9, .int .i64 0), (10, .bool false), (31, .bool true)] (fun U75 => ?_)
      have x6 := SG.blk s18 x6 (by simp)
      have c76 := (SG.belowR c10 s18 (fun kq e => by cases e))
      refine h3 _ _ ?_
      refine wp_cond_true (by kernel_rfl) ?_
      refine wp_seq_k (fun K19 h19 => ?_)
      refine W.region_quiet [(0, false), (1, false), (2, false)] (by kernel_rfl) ?_
      refine W.as (v := .int .i64 0) (h := ?_)
      refine W.as (v := .int .i64 0) (h := ?_)
      refine W.as (v := .bool false) (h := ?_)
      refine W.endF 67 [(0, .agg #[.int .i64 m, .slice A n c]), (1, .slice A2 n2 c2), (2, .int .i64 s), (3, .slice A4 n4 c4), (4, .pointer (some ⟨b2, 0, none⟩)), (8, .int .i64 0), (9, .int .i64 0), (10, .bool false), (31, .bool true)] (fun U77 => ?_)
      refine h19 _ _ ?_
      refine wp_ret ?_
      try simp only [Exit.then]
      refine ret3 (v := .int .i64 0) (x := .int .i64 0) (y := .bool false) rfl (by kernel_rfl) (by kernel_rfl) (by kernel_rfl) ?_
      have e8 : WorstBurst_v2 m ps vs s cs = false := by unfold WorstBurst_v2; rw [q15, q74]; rfl
      exact ⟨by unfold WorstBurst_v0 WorstBurst_v1; rw [if_neg (by rw [e8]; simp), if_neg (by rw [e8]; simp), e8], c76⟩
  · rw [q15]
    refine W.q (v := .bool true) (hr := (r_not (b := false) rfl (by kernel_rfl) rfl)) (h := ?_)
    refine W.mv (v := .bool true) (h := ?_)
    refine W.sp s14 (h := ?_)
    refine W.sp s14 (h := ?_)
    refine W.sp s14 (h := ?_)
    refine W.sp s14 (h := ?_)
    refine W.q (v := .bool true) (hr := (r_pick (b := true) rfl (by kernel_rfl) (by kernel_rfl))) (h := ?_)
    refine W.mv (v := .bool true) (h := ?_)
    refine W.sp s14 (h := ?_)
    refine W.sp s14 (h := ?_)
    refine W.sp s14 (h := ?_)
    refine W.sp s14 (h := ?_)
    refine W.q (v := .bool true) (hr := (r_pick (b := true) rfl (by kernel_rfl) (by kernel_rfl))) (h := ?_)
    refine W.endF 67 [(0, .agg #[.int .i64 m, .slice A n c]), (1, .slice A2 n2 c2), (2, .int .i64 s), (3, .slice A4 n4 c4), (4, .pointer (some ⟨b2, 0, none⟩)), (8, .int .i64 0), (9, .int .i64 0), (10, .bool false), (31, .bool true)] (fun U78 => ?_)
    have x6 := SG.blk s14 x6 (by simp)
    have c79 := (SG.belowR c10 s14 (fun kq e => by cases e))
    refine h3 _ _ ?_
    refine wp_cond_true (by kernel_rfl) ?_
    refine wp_seq_k (fun K20 h20 => ?_)
    refine W.region_quiet [(0, false), (1, false), (2, false)] (by kernel_rfl) ?_
    refine W.as (v := .int .i64 0) (h := ?_)
    refine W.as (v := .int .i64 0) (h := ?_)
    refine W.as (v := .bool false) (h := ?_)
    refine W.endF 67 [(0, .agg #[.int .i64 m, .slice A n c]), (1, .slice A2 n2 c2), (2, .int .i64 s), (3, .slice A4 n4 c4), (4, .pointer (some ⟨b2, 0, none⟩)), (8, .int .i64 0), (9, .int .i64 0), (10, .bool false), (31, .bool true)] (fun U80 => ?_)
    refine h20 _ _ ?_
    refine wp_ret ?_
    try simp only [Exit.then]
    refine ret3 (v := .int .i64 0) (x := .int .i64 0) (y := .bool false) rfl (by kernel_rfl) (by kernel_rfl) (by kernel_rfl) ?_
    have e8 : WorstBurst_v2 m ps vs s cs = false := by unfold WorstBurst_v2; rw [q15]; rfl
    exact ⟨by unfold WorstBurst_v0 WorstBurst_v1; rw [if_neg (by rw [e8]; simp), if_neg (by rw [e8]; simp), e8], c79⟩

end Go.Proofs.Ytnfmdkbelbppdaa
