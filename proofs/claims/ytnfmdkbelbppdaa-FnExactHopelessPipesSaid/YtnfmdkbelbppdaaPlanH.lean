/- Hopeless pipes: both packages answer alike. -/
import Derived.Test.YtnfmdkbelbppdaaPlanP
import Derived.Test.YtnfmdkbelbppdaaVFin
namespace Go.Proofs.Ytnfmdkbelbppdaa
open Go.RowKit
set_option linter.unusedVariables false
set_option linter.unusedSimpArgs false

theorem findL_pos {ps : List Pp} {p : Pp} (h : p ∈ ps) : 0 ≤ findL ps p.id := by
  induction ps with
  | nil => cases h
  | cons q ps ih =>
    unfold findL
    by_cases e : q.id = p.id
    · rw [if_pos e]; exact Int.le_refl _
    · rw [if_neg e]
      have hp : p ∈ ps := (List.mem_cons.1 h).elim (fun e' => absurd (by rw [e']) e) id
      have := ih hp
      rw [if_neg (by omega)]; omega
def allIds (vs : List Vv) : List Int := vs.map (fun v => v.id)
theorem allIds_take {vs : List Vv} {i : Nat} {x : Vv} (hx : vs[i]? = some x) : allIds (vs.take (i + 1)) = allIds (vs.take i) ++ [x.id] := by
  unfold allIds; rw [List.take_add_one, hx, List.map_append]; rfl
theorem cut_all {m : Int} {ps : List Pp} {vs : List Vv} (s id : Int) : cutB ps vs s id (allIds vs) = cutB ps vs s id (openIds vs) := by
  rw [Bool.eq_iff_iff]
  constructor
  · exact cut_open
  · exact cut_mono (fun u hu _ _ => List.contains_iff_mem.2 (List.mem_map.2 ⟨u, hu, rfl⟩))
noncomputable def hopeL (ps : List Pp) (vs : List Vv) (s : Int) (qs : List Pp) : List Int := (qs.filter (fun p => !cutB ps vs s p.id (openIds vs))).map (fun p => p.id)
theorem hopeL_yes {ps : List Pp} {vs : List Vv} {s : Int} {qs : List Pp} {i : Nat} {p : Pp} (hp : qs[i]? = some p) (h : cutB ps vs s p.id (openIds vs) = false) : hopeL ps vs s (qs.take (i + 1)) = hopeL ps vs s (qs.take i) ++ [p.id] := by
  unfold hopeL; rw [List.take_add_one, hp, List.filter_append, List.map_append]; simp [h]
theorem hopeL_no {ps : List Pp} {vs : List Vv} {s : Int} {qs : List Pp} {i : Nat} {p : Pp} (hp : qs[i]? = some p) (h : cutB ps vs s p.id (openIds vs) = true) : hopeL ps vs s (qs.take (i + 1)) = hopeL ps vs s (qs.take i) := by
  unfold hopeL; rw [List.take_add_one, hp, List.filter_append, List.map_append]; simp [h]
def HopelessPipes_v1 (m : Int) (ps : List Pp) (vs : List Vv) (s : Int) : Bool := goodV m ps vs && inB s 1 m
noncomputable def HopelessPipes_v0 (m : Int) (ps : List Pp) (vs : List Vv) (s : Int) : List Int := if HopelessPipes_v1 m ps vs s = true then hopeL ps vs s ps else []
theorem HopelessPipes_len (m : Int) (ps : List Pp) (vs : List Vv) (s : Int) : (HopelessPipes_v0 m ps vs s).length ≤ 1048576 := by
  unfold HopelessPipes_v0
  split
  · rename_i h
    have hg : goodV m ps vs = true := by unfold HopelessPipes_v1 at h; rw [Bool.and_eq_true] at h; exact h.1
    have := (goodV_of hg).net.len
    have := List.length_filter_le (fun p => !cutB ps vs s p.id (openIds vs)) ps
    unfold hopeL; rw [List.length_map]; omega
  · simp

set_option maxRecDepth 100000 in
set_option maxHeartbeats 1000000 in
theorem HopelessPipes_impl (m : Int) (A : Option Addr) (n c : Nat) (ps : List Pp) (A2 : Option Addr) (n2 c2 : Nat) (vs : List Vv) (s : Int) (w : World) (ha : Rd w 4 A n (pipesV ps)) (hb : Rd w 4 A2 n2 (valvesV vs)) (hn : n ≤ 1048576) (hn2 : n2 ≤ 1048576) (hfm : Fm A n c) (hfm2 : Fm A2 n2 c2) :
    Calls Try.prog 36 #[.agg #[.int .i64 m, .slice A n c], .slice A2 n2 c2, .int .i64 s] w fun e w' => ∃ A' d, e = .returned (.tuple #[.slice A' (HopelessPipes_v0 m ps vs s).length d, .bool (HopelessPipes_v1 m ps vs s)]) ∧ w'.ownsRow w.heap.size 3 1 (.slice A' (HopelessPipes_v0 m ps vs s).length d) (HopelessPipes_v0 m ps vs s).length (intsV (HopelessPipes_v0 m ps vs s)) ∧ Below w.heap.size w w' := by
  have hl := rd_pipes_len ha
  have hl2 := rd_valves_len hb
  go_enter Try.func36, Try.ntmps36
  refine wp_seq_k (fun K1 h1 => ?_)
  refine W.region_plain (row := none) [(0, true), (1, false), (2, false)] (by kernel_rfl) ?_
  have s1 := SG.self w none
  refine W.sn (fun b => .pointer (some ⟨b, 0, none⟩)) #[.int .i64 m, .slice A n c] 32 s1 rfl (by kernel_rfl) rfl (fun _ => by kernel_rfl) (fun b2 w3 hb4 k5 x6 s7 => ?_)
  have lo8 : w.heap.size ≤ b2 := by have := ((SG.belowR (Below.refl _ _) s1 (fun kq e => by cases e))).size; omega
  refine W.sq (v := .slice none 0 0) rfl (r_assign rfl (by kernel_rfl)) (by kernel_rfl) rfl rfl ?_
  refine W.sq (v := .bool false) rfl (r_assign rfl (by kernel_rfl)) (by kernel_rfl) rfl rfl ?_
  refine W.sch_end (l' := [.agg #[.int .i64 m, .slice A n c], .slice A2 n2 c2, .int .i64 s, .pointer (some ⟨b2, 0, none⟩), undef, undef, .slice none 0 0, .bool false, undef, undef, undef, undef, undef, undef, undef, undef, undef, undef, undef, undef, undef, undef, undef, undef, undef, undef, undef, undef, undef, undef, undef, undef, undef, undef, undef, undef, undef, undef, undef, undef, undef, undef, undef, undef, undef, undef, undef, undef, undef, undef, undef, undef, undef, undef, undef, undef, undef, undef, undef, undef]) (by kernel_rfl) ?_
  have c9 := (SG.belowR (Below.refl _ _) s7 (fun kq e => by cases e))
  refine h1 _ _ ?_
  refine wp_seq_k (fun K2 h2 => ?_)
  refine wp_seq_k (fun K3 h3 => ?_)
  refine W.region_plain (row := none) [(0, false), (1, false), (2, true), (3, false), (4, false), (5, false), (6, false), (7, true), (8, false), (9, false)] (by kernel_rfl) ?_
  have s10 := SG.self w3 none
  refine W.sq (v := .agg #[.int .i64 m, .slice A n c]) rfl (r_load2 rfl (by kernel_rfl) (by kernel_rfl) (by kernel_rfl) (sgS (blk_cell (j := 0) x6 (by kernel_rfl)) (by simp)) (sgS (blk_cell (j := 1) x6 (by kernel_rfl)) (by simp))) (by kernel_rfl) rfl rfl ?_
  refine W.sq (v := .slice A2 n2 c2) rfl (r_move rfl (by kernel_rfl)) (by kernel_rfl) rfl rfl ?_
  refine W.sc (vs := [.agg #[.int .i64 m, .slice A n c], .slice A2 n2 c2]) rfl rfl (by kernel_rfl) (by kernel_rfl) (by kernel_rfl) rfl (IsValidValves_any m A n c ps A2 n2 c2 vs _ (Rd.kept ha (SG.belowR c9 s10 (fun kq e => by cases e))) (Rd.kept hb (SG.belowR c9 s10 (fun kq e => by cases e))) (by omega) (by omega) hfm2) ?_
  rintro e w12 ⟨rfl, b11⟩
  have s13 := SG.of_below s10 b11
  refine ⟨_, rfl, s13, ?_⟩
  rcases Bool.eq_false_or_eq_true (goodV m ps vs) with q14 | q14
  · rw [q14]
    have hv9 := goodV_of q14
    have hg := hv9.net
    have hgl := hg.lo
    have hgh := hg.hi
    have hp := hg.pipesIn
    have hlen10 := hg.len
    have hu := hv9.uniq
    have hvl := hv9.len
    refine W.sq (v := .bool false) rfl (r_not (b := true) rfl (by kernel_rfl) rfl) (by kernel_rfl) rfl rfl ?_
    refine W.sq (v := .bool false) rfl (r_move rfl (by kernel_rfl)) (by kernel_rfl) rfl rfl ?_
    refine W.sq (v := .agg #[.int .i64 m, .slice A n c]) rfl (r_load2 rfl (by kernel_rfl) (by kernel_rfl) (by kernel_rfl) (sgS (blk_cell (j := 0) x6 (by kernel_rfl)) (by simp)) (sgS (blk_cell (j := 1) x6 (by kernel_rfl)) (by simp))) (by kernel_rfl) rfl rfl ?_
    refine W.sq (v := .int .i64 s) rfl (r_move rfl (by kernel_rfl)) (by kernel_rfl) rfl rfl ?_
    refine W.sc (vs := [.agg #[.int .i64 m, .slice A n c], .int .i64 s]) rfl rfl (by kernel_rfl) (by kernel_rfl) (by kernel_rfl) rfl (has_any m A n c ps s _) ?_
    rintro e w16 ⟨rfl, b15⟩
    have s17 := SG.of_below s13 b15
    refine ⟨_, rfl, s17, ?_⟩
    rcases Bool.eq_false_or_eq_true (inB s 1 m) with q18 | q18
    · rw [q18]
      have hs9 := inB_iff.1 q18
      refine W.sq (v := .bool false) rfl (r_not (b := true) rfl (by kernel_rfl) rfl) (by kernel_rfl) rfl rfl ?_
      refine W.sq (v := .bool false) rfl (r_pick (b := false) rfl (by kernel_rfl) (by kernel_rfl)) (by kernel_rfl) rfl rfl ?_
      refine W.sch_endU (fun U19 => [.agg #[.int .i64 m, .slice A n c], .slice A2 n2 c2, .int .i64 s, .pointer (some ⟨b2, 0, none⟩), undef, undef, .slice none 0 0, .bool false, undef, undef, undef, undef, undef, undef, U19 14, U19 15, U19 16, U19 17, U19 18, U19 19, U19 20, U19 21, U19 22, .bool false, undef, undef, undef, undef, undef, undef, undef, undef, undef, undef, undef, undef, undef, undef, undef, undef, undef, undef, undef, undef, undef, undef, undef, undef, undef, undef, undef, undef, undef, undef, undef, undef, undef, undef, undef, undef]) (by kernel_rfl) (fun U19 => ?_)
      have x6 := SG.blk s17 x6 (by simp)
      have c20 := (SG.belowR c9 s17 (fun kq e => by cases e))
      refine h3 _ _ ?_
      refine wp_cond_false (by kernel_rfl) ?_
      refine wp_skip ?_
      refine h2 _ _ ?_
      refine wp_seq_k (fun K4 h4 => ?_)
      refine W.region_plain (row := none) [(0, true), (1, true), (2, false), (3, false)] (by kernel_rfl) ?_
      have s21 := SG.self w16 none
      refine W.sn (fun b => .slice (some ⟨b, 0, none⟩) 0 0) #[] 3 s21 rfl (by kernel_rfl) rfl (fun _ => by kernel_rfl) (fun b22 w23 hb24 k25 x26 s27 => ?_)
      have lo28 : w.heap.size ≤ b22 := by have := ((SG.belowR c20 s21 (fun kq e => by cases e))).size; omega
      have ne29 : b2 ≠ b22 := by have := blk_lt x6; have := World.grownBy.size s21; omega
      refine W.sn (fun b => .slice (some ⟨b, 0, none⟩) 0 0) #[] 3 s27 rfl (by kernel_rfl) rfl (fun _ => by kernel_rfl) (fun b30 w31 hb32 k33 x34 s35 => ?_)
      have lo36 : w.heap.size ≤ b30 := by have := ((SG.belowR c20 s27 (fun kq e => by cases e))).size; omega
      have ne37 : b2 ≠ b30 := by have := blk_lt x6; have := World.grownBy.size s27; omega
      have ne38 : b22 ≠ b30 := by have := blk_lt x26; omega
      have x26 := (k33.block _ (blk_lt x26)).trans x26
      refine W.sq (v := .slice (some ⟨b22, 0, none⟩) 0 0) rfl (r_assign rfl (by kernel_rfl)) (by kernel_rfl) rfl rfl ?_
      refine W.sq (v := .slice (some ⟨b30, 0, none⟩) 0 0) rfl (r_assign rfl (by kernel_rfl)) (by kernel_rfl) rfl rfl ?_
      refine W.sch_endU (fun U39 => [.agg #[.int .i64 m, .slice A n c], .slice A2 n2 c2, .int .i64 s, .pointer (some ⟨b2, 0, none⟩), undef, undef, .slice none 0 0, .bool false, .slice (some ⟨b22, 0, none⟩) 0 0, .slice (some ⟨b30, 0, none⟩) 0 0, undef, undef, undef, undef, (U19 14), (U19 15), (U19 16), (U19 17), (U19 18), (U19 19), (U19 20), (U19 21), (U19 22), .bool false, U39 24, U39 25, undef, undef, undef, undef, undef, undef, undef, undef, undef, undef, undef, undef, undef, undef, undef, undef, undef, undef, undef, undef, undef, undef, undef, undef, undef, undef, undef, undef, undef, undef, undef, undef, undef, undef]) (by kernel_rfl) (fun U39 => ?_)
      have x6 := SG.blk s35 x6 (by simp)
      have c40 := (SG.belowR c20 s35 (fun kq e => by cases e))
      refine h4 _ _ ?_
      refine wp_seq_k (fun K5 h5 => ?_)
      refine wp_seq_k (fun K6 h6 => ?_)
      refine W.region_quiet [(0, false), (1, false), (2, false)] (by kernel_rfl) ?_
      refine W.sq (v := .slice A2 n2 c2) rfl (r_move rfl (by kernel_rfl)) (by kernel_rfl) rfl rfl ?_
      refine W.sq (v := .int .i64 ((n2 : Nat) : Int)) rfl (r_len (A := A2) (n := n2) (c := c2) rfl (by kernel_rfl) (by kernel_rfl)) (by kernel_rfl) rfl rfl ?_
      refine W.sq (v := .int .i64 0) rfl (r_move rfl (by kernel_rfl)) (by kernel_rfl) rfl rfl ?_
      refine W.sch_end (l' := [.agg #[.int .i64 m, .slice A n c], .slice A2 n2 c2, .int .i64 s, .pointer (some ⟨b2, 0, none⟩), undef, undef, .slice none 0 0, .bool false, .slice (some ⟨b22, 0, none⟩) 0 0, .slice (some ⟨b30, 0, none⟩) 0 0, undef, undef, undef, undef, (U19 14), (U19 15), (U19 16), (U19 17), (U19 18), (U19 19), (U19 20), (U19 21), (U19 22), .bool false, (U39 24), (U39 25), .slice A2 n2 c2, .int .i64 ((n2 : Nat) : Int), .int .i64 0, undef, undef, undef, undef, undef, undef, undef, undef, undef, undef, undef, undef, undef, undef, undef, undef, undef, undef, undef, undef, undef, undef, undef, undef, undef, undef, undef, undef, undef, undef, undef]) (by kernel_rfl) ?_
      refine h6 _ _ ?_
      refine wp_block ?_
      have ho41 := own_empty (base := w.heap.size) (size := 1) x26 lo28
      replace ho41 : World.ownsRow _ _ _ _ _ _ (intsV []) := ho41
      have nb42 : Nb b2 (.slice (some ⟨b22, 0, none⟩) 0 0) := nb_new (by have := ne29; omega)
      have nb43 : Nb b30 (.slice (some ⟨b22, 0, none⟩) 0 0) := nb_new (by have := ne38; omega)
      refine loopK (fun am0 aa0 wl0 => ∃ (j : Nat) (A0_8 : Option Addr) (n0_8 : Nat) (c0_8 : Nat) (U0 : Nat → Value), aa0 = ⟨[.agg #[.int .i64 m, .slice A n c], .slice A2 n2 c2, .int .i64 s, .pointer (some ⟨b2, 0, none⟩), undef, undef, .slice none 0 0, .bool false, .slice A0_8 n0_8 c0_8, .slice (some ⟨b30, 0, none⟩) 0 0, undef, U0 11, undef, undef, (U19 14), (U19 15), (U19 16), (U19 17), (U19 18), (U19 19), (U19 20), (U19 21), (U19 22), .bool false, (U39 24), (U39 25), .slice A2 n2 c2, .int .i64 ((n2 : Nat) : Int), .int .i64 ((j : Nat) : Int), U0 29, U0 30, U0 31, U0 32, U0 33, U0 34, U0 35, U0 36, U0 37, undef, undef, undef, undef, undef, undef, undef, undef, undef, undef, undef, undef, undef, undef, undef, undef, undef, undef, undef, undef, undef, undef].toArray, []⟩ ∧ (am0 = n2 - j) ∧ (j ≤ n2) ∧ (n0_8 ≤ j) ∧ (wl0.heap[b2]? = some (.cells #[.int .i64 m, .slice A n c] 32 (0, 0))) ∧ (wl0.heap[b30]? = some (.cells #[] 3 (0, 0))) ∧ (wl0.ownsRow w.heap.size 3 1 (.slice A0_8 n0_8 c0_8) n0_8 (intsV (allIds (vs.take j)))) ∧ (Nb b2 (.slice A0_8 n0_8 c0_8)) ∧ (Nb b30 (.slice A0_8 n0_8 c0_8)) ∧ (Below w.heap.size w wl0)) (n2 - 0) ?_ ?_
      · exact ⟨0, (some ⟨b22, 0, none⟩), 0, 0, (fun iU9 => [.agg #[.int .i64 m, .slice A n c], .slice A2 n2 c2, .int .i64 s, .pointer (some ⟨b2, 0, none⟩), undef, undef, .slice none 0 0, .bool false, .slice (some ⟨b22, 0, none⟩) 0 0, .slice (some ⟨b30, 0, none⟩) 0 0, undef, undef, undef, undef, (U19 14), (U19 15), (U19 16), (U19 17), (U19 18), (U19 19), (U19 20), (U19 21), (U19 22), .bool false, (U39 24), (U39 25), .slice A2 n2 c2, .int .i64 ((n2 : Nat) : Int), .int .i64 0, undef, undef, undef, undef, undef, undef, undef, undef, undef, undef, undef, undef, undef, undef, undef, undef, undef, undef, undef, undef, undef, undef, undef, undef, undef, undef, undef, undef, undef, undef, undef].getD iU9 undef), (by kernel_rfl), rfl, (Nat.zero_le _), (Nat.zero_le _), x6, x34, ho41, nb42, nb43, c40⟩
      rintro am0 aa0 wl0 K7 h7 ⟨j, A0_8, n0_8, c0_8, U0, rfl, rfl, hj, hb8, x6, x34, ho0_8, nb0_8_b2, nb0_8_b30, c44⟩
      refine wp_seq_k (fun K8 h8 => ?_)
      refine W.region_quiet [(0, false)] (by kernel_rfl) ?_
      by_cases q45 : (((j : Nat) : Int) : Int) < (((n2 : Nat) : Int) : Int)
      · refine W.sq (v := .bool true) rfl (r_lss (m := ((j : Nat) : Int)) (n := ((n2 : Nat) : Int)) rfl (by kernel_rfl) (by kernel_rfl) (decide_eq_true q45)) (by kernel_rfl) rfl rfl ?_
        refine W.sch_end (l' := [.agg #[.int .i64 m, .slice A n c], .slice A2 n2 c2, .int .i64 s, .pointer (some ⟨b2, 0, none⟩), undef, undef, .slice none 0 0, .bool false, .slice A0_8 n0_8 c0_8, .slice (some ⟨b30, 0, none⟩) 0 0, undef, (U0 11), undef, undef, (U19 14), (U19 15), (U19 16), (U19 17), (U19 18), (U19 19), (U19 20), (U19 21), (U19 22), .bool false, (U39 24), (U39 25), .slice A2 n2 c2, .int .i64 ((n2 : Nat) : Int), .int .i64 ((j : Nat) : Int), .bool true, (U0 30), (U0 31), (U0 32), (U0 33), (U0 34), (U0 35), (U0 36), (U0 37), undef, undef, undef, undef, undef, undef, undef, undef, undef, undef, undef, undef, undef, undef, undef, undef, undef, undef, undef, undef, undef, undef]) (by kernel_rfl) ?_
        refine h8 _ _ ?_
        refine wp_seq_k (fun K9 h9 => ?_)
        refine wp_cond_true (by kernel_rfl) ?_
        refine wp_skip ?_
        refine h9 _ _ ?_
        refine wp_seq_k (fun K10 h10 => ?_)
        refine wp_block ?_
        refine wp_seq_k (fun K11 h11 => ?_)
        refine W.region_plain (row := none) [(0, false), (1, false), (2, true), (3, true)] (by kernel_rfl) ?_
        have s46 := SG.self wl0 none
        obtain ⟨x47, hx48⟩ := get_of (zs := vs) (k := j) (by have := hl2; omega)
        obtain ⟨b49, o50, hA51, hb52, hc53, hc54, hc55, hc56⟩ := Rd.elValve hb hx48
        refine W.sq (v := .pointer (some ⟨b49, o50 + j * 4, none⟩)) rfl (r_idx (n := n2) (c := c2) (k := j) rfl (by kernel_rfl) hA51 (by kernel_rfl) (by kernel_rfl) (by have := hl2; omega)) (by kernel_rfl) rfl rfl ?_
        refine W.sq (v := .agg #[.int .i64 x47.id, .int .i64 x47.pipe, .int .i64 x47.node, .bool x47.shut]) rfl (r_load4 rfl (by kernel_rfl) (by kernel_rfl) (by kernel_rfl) (sgS (later c44 hc53) (by simp)) (sgS (later c44 hc54) (by simp)) (sgS (later c44 hc55) (by simp)) (sgS (later c44 hc56) (by simp))) (by kernel_rfl) rfl rfl ?_
        refine W.sn (fun b => .pointer (some ⟨b, 0, none⟩)) #[.int .i64 0, .int .i64 0, .int .i64 0, .bool false] 60 s46 rfl (by kernel_rfl) rfl (fun _ => by kernel_rfl) (fun b57 w58 hb59 k60 x61 s62 => ?_)
        have lo63 : w.heap.size ≤ b57 := by have := ((SG.belowR c44 s46 (fun kq e => by cases e))).size; omega
        have ne64 : b2 ≠ b57 := by have := blk_lt x6; have := World.grownBy.size s46; omega
        have ne65 : b30 ≠ b57 := by have := blk_lt x34; have := World.grownBy.size s46; omega
        have nb66 : Nb b57 (.slice A0_8 n0_8 c0_8) := nb_hi ho0_8 (Nat.le_of_eq hb59)
        have ho67 := own_kept ho0_8 k60
        refine W.ss (v := .agg #[.int .i64 x47.id, .int .i64 x47.pipe, .int .i64 x47.node, .bool x47.shut]) (j := 0) (news := [.int .i64 x47.id, .int .i64 x47.pipe, .int .i64 x47.node, .bool x47.shut]) (cs' := #[.int .i64 x47.id, .int .i64 x47.pipe, .int .i64 x47.node, .bool x47.shut]) s62 rfl (by kernel_rfl) rfl rfl (by kernel_rfl) (by kernel_rfl) x61 (by kernel_rfl) (by kernel_rfl) (by simp) (by kernel_rfl) (by kernel_rfl) (.inr (by have := World.grownBy.size s46; have := hb59; omega)) (fun w68 g69 x70 s71 => ?_)
        have ho72 := own_grown ho67 g69 (fun j e1 e2 => by cases e2; exact nb66 e1.symm)
        refine W.sch_endU (fun U73 => [.agg #[.int .i64 m, .slice A n c], .slice A2 n2 c2, .int .i64 s, .pointer (some ⟨b2, 0, none⟩), undef, undef, .slice none 0 0, .bool false, .slice A0_8 n0_8 c0_8, .slice (some ⟨b30, 0, none⟩) 0 0, undef, .pointer (some ⟨b57, 0, none⟩), undef, undef, (U19 14), (U19 15), (U19 16), (U19 17), (U19 18), (U19 19), (U19 20), (U19 21), (U19 22), .bool false, (U39 24), (U39 25), .slice A2 n2 c2, .int .i64 ((n2 : Nat) : Int), .int .i64 ((j : Nat) : Int), .bool true, U73 30, U73 31, (U0 32), (U0 33), (U0 34), (U0 35), (U0 36), (U0 37), undef, undef, undef, undef, undef, undef, undef, undef, undef, undef, undef, undef, undef, undef, undef, undef, undef, undef, undef, undef, undef, undef]) (by kernel_rfl) (fun U73 => ?_)
        have x6 := SG.blk s71 x6 (by simp)
        have x34 := SG.blk s71 x34 (by simp)
        have c74 := (SG.belowR c44 s71 (fun kq e => by cases e))
        refine h11 _ _ ?_
        refine W.region_plain (row := (Value.ownBlock (.slice A0_8 n0_8 c0_8))) [(0, false), (1, false), (2, false), (3, true), (4, true), (5, false)] (by kernel_rfl) ?_
        have s75 := SG.self w68 (Value.ownBlock (.slice A0_8 n0_8 c0_8))
        refine W.sq (v := .slice A0_8 n0_8 c0_8) rfl (r_move rfl (by kernel_rfl)) (by kernel_rfl) rfl rfl ?_
        refine W.sq (v := .pointer (some ⟨b57, 0, none⟩)) rfl (r_field0 rfl (by kernel_rfl) (by kernel_rfl)) (by kernel_rfl) rfl rfl ?_
        refine W.sq (v := .int .i64 x47.id) rfl (r_load rfl (by kernel_rfl) (by kernel_rfl) (sgS (blk_cell (j := 0) x70 (by kernel_rfl)) nb66)) (by kernel_rfl) rfl rfl ?_
        refine W.sn (fun b => .slice (some ⟨b, 0, none⟩) 1 1) #[.int .i64 x47.id] 3 s75 rfl (by kernel_rfl) rfl (fun _ => by kernel_rfl) (fun b76 w77 hb78 k79 x80 s81 => ?_)
        have lo82 : w.heap.size ≤ b76 := by have := ((SG.belowR c74 s75 (fun kq e => (World.ownsRow.lt ho72 kq e).1))).size; omega
        have ne83 : b2 ≠ b76 := by have := blk_lt x6; have := World.grownBy.size s75; omega
        have ne84 : b30 ≠ b76 := by have := blk_lt x34; have := World.grownBy.size s75; omega
        have ne85 : b57 ≠ b76 := by have := blk_lt x70; have := World.grownBy.size s75; omega
        have nb86 : Nb b76 (.slice A0_8 n0_8 c0_8) := nb_hi ho72 (Nat.le_of_eq hb78)
        have ho87 := own_kept ho72 k79
        refine W.sap (e := 3) (size := 1) (base := w.heap.size) (m := 1) (v := .slice A0_8 n0_8 c0_8) (c := 1) s81 rfl rfl rfl rfl (by kernel_rfl) (by kernel_rfl) (by kernel_rfl) ho87 x80 (by kernel_rfl) (by kernel_rfl) (by omega) (by omega) (by have := ((SG.belowR c74 s81 (fun kq e => (World.ownsRow.lt ho72 kq e).1))).size; omega) (.inl rfl) (fun g88 cap89 w90 ho91 hg92 hat93 hlt94 s95 => ?_)
        have nb96 : Nb b2 (.slice (some ⟨g88, 0, none⟩) (n0_8 + 1) cap89) := nb_app nb0_8_b2 (Nat.lt_of_lt_of_le (blk_lt x6) (World.grownBy.size s81)) hat93
        have nb97 : Nb b30 (.slice (some ⟨g88, 0, none⟩) (n0_8 + 1) cap89) := nb_app nb0_8_b30 (Nat.lt_of_lt_of_le (blk_lt x34) (World.grownBy.size s81)) hat93
        have nb98 : Nb b57 (.slice (some ⟨g88, 0, none⟩) (n0_8 + 1) cap89) := nb_app nb66 (Nat.lt_of_lt_of_le (blk_lt x70) (World.grownBy.size s81)) hat93
        have nb99 : Nb b76 (.slice (some ⟨g88, 0, none⟩) (n0_8 + 1) cap89) := nb_app nb86 (blk_lt x80) hat93
        have x80 := (hg92.block _ (blk_lt x80) nb86).trans x80
        have ho91 := own_snoc ho91
        refine W.sq (v := .slice (some ⟨g88, 0, none⟩) (n0_8 + 1) cap89) rfl (r_assign rfl (by kernel_rfl)) (by kernel_rfl) rfl rfl ?_
        refine W.sch_endU (fun U100 => [.agg #[.int .i64 m, .slice A n c], .slice A2 n2 c2, .int .i64 s, .pointer (some ⟨b2, 0, none⟩), undef, undef, .slice none 0 0, .bool false, .slice (some ⟨g88, 0, none⟩) (n0_8 + 1) cap89, .slice (some ⟨b30, 0, none⟩) 0 0, undef, .pointer (some ⟨b57, 0, none⟩), undef, undef, (U19 14), (U19 15), (U19 16), (U19 17), (U19 18), (U19 19), (U19 20), (U19 21), (U19 22), .bool false, (U39 24), (U39 25), .slice A2 n2 c2, .int .i64 ((n2 : Nat) : Int), .int .i64 ((j : Nat) : Int), .bool true, (U73 30), (U73 31), U100 32, U100 33, U100 34, U100 35, U100 36, (U0 37), undef, undef, undef, undef, undef, undef, undef, undef, undef, undef, undef, undef, undef, undef, undef, undef, undef, undef, undef, undef, undef, undef]) (by kernel_rfl) (fun U100 => ?_)
        have x6 := SG.blk s95 x6 nb0_8_b2
        have x34 := SG.blk s95 x34 nb0_8_b30
        have x70 := SG.blk s95 x70 nb66
        have c101 := (SG.belowR c74 s95 (fun kq e => (World.ownsRow.lt ho72 kq e).1))
        refine h10 _ _ ?_
        refine W.region_quiet [(0, false), (1, false)] (by kernel_rfl) ?_
        refine W.sq (v := .int .i64 ((j + 1 : Nat) : Int)) rfl (r_add (m := ((j : Nat) : Int)) (n := 1) (z := ((j + 1 : Nat) : Int)) rfl (by kernel_rfl) (by kernel_rfl) (by omega) (by omega)) (by kernel_rfl) rfl rfl ?_
        refine W.sq (v := .int .i64 ((j + 1 : Nat) : Int)) rfl (r_move rfl (by kernel_rfl)) (by kernel_rfl) rfl rfl ?_
        refine W.sch_endU (fun U102 => [.agg #[.int .i64 m, .slice A n c], .slice A2 n2 c2, .int .i64 s, .pointer (some ⟨b2, 0, none⟩), undef, undef, .slice none 0 0, .bool false, .slice (some ⟨g88, 0, none⟩) (n0_8 + 1) cap89, .slice (some ⟨b30, 0, none⟩) 0 0, undef, .pointer (some ⟨b57, 0, none⟩), undef, undef, (U19 14), (U19 15), (U19 16), (U19 17), (U19 18), (U19 19), (U19 20), (U19 21), (U19 22), .bool false, (U39 24), (U39 25), .slice A2 n2 c2, .int .i64 ((n2 : Nat) : Int), .int .i64 ((j + 1 : Nat) : Int), .bool true, (U73 30), (U73 31), (U100 32), (U100 33), (U100 34), (U100 35), (U100 36), U102 37, undef, undef, undef, undef, undef, undef, undef, undef, undef, undef, undef, undef, undef, undef, undef, undef, undef, undef, undef, undef, undef, undef]) (by kernel_rfl) (fun U102 => ?_)
        exact h7 _ _ _ (by omega : (n2 - (j + 1)) < _) ⟨j + 1, (some ⟨g88, 0, none⟩), (n0_8 + 1), cap89, (fun iU9 => [.agg #[.int .i64 m, .slice A n c], .slice A2 n2 c2, .int .i64 s, .pointer (some ⟨b2, 0, none⟩), undef, undef, .slice none 0 0, .bool false, .slice (some ⟨g88, 0, none⟩) (n0_8 + 1) cap89, .slice (some ⟨b30, 0, none⟩) 0 0, undef, .pointer (some ⟨b57, 0, none⟩), undef, undef, (U19 14), (U19 15), (U19 16), (U19 17), (U19 18), (U19 19), (U19 20), (U19 21), (U19 22), .bool false, (U39 24), (U39 25), .slice A2 n2 c2, .int .i64 ((n2 : Nat) : Int), .int .i64 ((j + 1 : Nat) : Int), .bool true, (U73 30), (U73 31), (U100 32), (U100 33), (U100 34), (U100 35), (U100 36), (U102 37), undef, undef, undef, undef, undef, undef, undef, undef, undef, undef, undef, undef, undef, undef, undef, undef, undef, undef, undef, undef, undef, undef].getD iU9 undef), (by kernel_rfl), rfl, (by omega), (by omega), x6, x34, (by rw [allIds_take hx48]; exact ho91), nb96, nb97, c101⟩
      · refine W.sq (v := .bool false) rfl (r_lss (m := ((j : Nat) : Int)) (n := ((n2 : Nat) : Int)) rfl (by kernel_rfl) (by kernel_rfl) (decide_eq_false q45)) (by kernel_rfl) rfl rfl ?_
        refine W.sch_end (l' := [.agg #[.int .i64 m, .slice A n c], .slice A2 n2 c2, .int .i64 s, .pointer (some ⟨b2, 0, none⟩), undef, undef, .slice none 0 0, .bool false, .slice A0_8 n0_8 c0_8, .slice (some ⟨b30, 0, none⟩) 0 0, undef, (U0 11), undef, undef, (U19 14), (U19 15), (U19 16), (U19 17), (U19 18), (U19 19), (U19 20), (U19 21), (U19 22), .bool false, (U39 24), (U39 25), .slice A2 n2 c2, .int .i64 ((n2 : Nat) : Int), .int .i64 ((j : Nat) : Int), .bool false, (U0 30), (U0 31), (U0 32), (U0 33), (U0 34), (U0 35), (U0 36), (U0 37), undef, undef, undef, undef, undef, undef, undef, undef, undef, undef, undef, undef, undef, undef, undef, undef, undef, undef, undef, undef, undef, undef]) (by kernel_rfl) ?_
        refine h8 _ _ ?_
        refine wp_seq_k (fun K12 h12 => ?_)
        refine wp_cond_false (by kernel_rfl) ?_
        refine wp_exit ?_
        refine h5 _ _ ?_
        refine wp_seq_k (fun K13 h13 => ?_)
        refine wp_seq_k (fun K14 h14 => ?_)
        refine W.region_quiet [(0, false), (1, false), (2, false), (3, false)] (by kernel_rfl) ?_
        refine W.sq (v := .pointer (some ⟨b2, 1, none⟩)) rfl (r_field (k := 1) rfl (by kernel_rfl) (by kernel_rfl)) (by kernel_rfl) rfl rfl ?_
        refine W.sq (v := .slice A n c) rfl (r_load rfl (by kernel_rfl) (by kernel_rfl) (eqS (blk_cell (j := 1) x6 (by kernel_rfl)))) (by kernel_rfl) rfl rfl ?_
        refine W.sq (v := .int .i64 ((n : Nat) : Int)) rfl (r_len (A := A) (n := n) (c := c) rfl (by kernel_rfl) (by kernel_rfl)) (by kernel_rfl) rfl rfl ?_
        refine W.sq (v := .int .i64 0) rfl (r_move rfl (by kernel_rfl)) (by kernel_rfl) rfl rfl ?_
        refine W.sch_endU (fun U103 => [.agg #[.int .i64 m, .slice A n c], .slice A2 n2 c2, .int .i64 s, .pointer (some ⟨b2, 0, none⟩), undef, undef, .slice none 0 0, .bool false, .slice A0_8 n0_8 c0_8, .slice (some ⟨b30, 0, none⟩) 0 0, undef, (U0 11), undef, undef, (U19 14), (U19 15), (U19 16), (U19 17), (U19 18), (U19 19), (U19 20), (U19 21), (U19 22), .bool false, (U39 24), (U39 25), .slice A2 n2 c2, .int .i64 ((n2 : Nat) : Int), .int .i64 ((j : Nat) : Int), .bool false, (U0 30), (U0 31), (U0 32), (U0 33), (U0 34), (U0 35), (U0 36), (U0 37), U103 38, .slice A n c, .int .i64 ((n : Nat) : Int), .int .i64 0, undef, undef, undef, undef, undef, undef, undef, undef, undef, undef, undef, undef, undef, undef, undef, undef, undef, undef]) (by kernel_rfl) (fun U103 => ?_)
        refine h14 _ _ ?_
        refine wp_block ?_
        have ho104 := own_empty (base := w.heap.size) (size := 1) x34 lo36
        replace ho104 : World.ownsRow _ _ _ _ _ _ (intsV []) := ho104
        have nr105 : NbR (.slice (some ⟨b30, 0, none⟩) 0 0) (.slice A0_8 n0_8 c0_8) := nbr_new nb0_8_b30
        have nb106 : Nb b2 (.slice (some ⟨b30, 0, none⟩) 0 0) := nb_new (by have := ne37; omega)
        refine loopK (fun am1 aa1 wl1 => ∃ (i : Nat) (A1_9 : Option Addr) (n1_9 : Nat) (c1_9 : Nat) (U1 : Nat → Value), aa1 = ⟨[.agg #[.int .i64 m, .slice A n c], .slice A2 n2 c2, .int .i64 s, .pointer (some ⟨b2, 0, none⟩), undef, undef, .slice none 0 0, .bool false, .slice A0_8 n0_8 c0_8, .slice A1_9 n1_9 c1_9, undef, (U0 11), undef, U1 13, (U19 14), (U19 15), (U19 16), (U19 17), (U19 18), (U19 19), (U19 20), (U19 21), (U19 22), .bool false, (U39 24), (U39 25), .slice A2 n2 c2, .int .i64 ((n2 : Nat) : Int), .int .i64 ((j : Nat) : Int), .bool false, (U0 30), (U0 31), (U0 32), (U0 33), (U0 34), (U0 35), (U0 36), (U0 37), (U103 38), .slice A n c, .int .i64 ((n : Nat) : Int), .int .i64 ((i : Nat) : Int), U1 42, U1 43, U1 44, U1 45, U1 46, U1 47, U1 48, U1 49, U1 50, U1 51, U1 52, U1 53, U1 54, U1 55, U1 56, U1 57, U1 58, undef].toArray, []⟩ ∧ (am1 = n - i) ∧ (i ≤ n) ∧ (n1_9 ≤ i) ∧ (wl1.heap[b2]? = some (.cells #[.int .i64 m, .slice A n c] 32 (0, 0))) ∧ (wl1.ownsRow w.heap.size 3 1 (.slice A0_8 n0_8 c0_8) n0_8 (intsV (allIds vs))) ∧ (wl1.ownsRow w.heap.size 3 1 (.slice A1_9 n1_9 c1_9) n1_9 (intsV (hopeL ps vs s (ps.take i)))) ∧ (Nb b2 (.slice A1_9 n1_9 c1_9)) ∧ (NbR (.slice A1_9 n1_9 c1_9) (.slice A0_8 n0_8 c0_8)) ∧ (Below w.heap.size w wl1)) (n - 0) ?_ ?_
        · exact ⟨0, (some ⟨b30, 0, none⟩), 0, 0, (fun iU9 => [.agg #[.int .i64 m, .slice A n c], .slice A2 n2 c2, .int .i64 s, .pointer (some ⟨b2, 0, none⟩), undef, undef, .slice none 0 0, .bool false, .slice A0_8 n0_8 c0_8, .slice (some ⟨b30, 0, none⟩) 0 0, undef, (U0 11), undef, undef, (U19 14), (U19 15), (U19 16), (U19 17), (U19 18), (U19 19), (U19 20), (U19 21), (U19 22), .bool false, (U39 24), (U39 25), .slice A2 n2 c2, .int .i64 ((n2 : Nat) : Int), .int .i64 ((j : Nat) : Int), .bool false, (U0 30), (U0 31), (U0 32), (U0 33), (U0 34), (U0 35), (U0 36), (U0 37), (U103 38), .slice A n c, .int .i64 ((n : Nat) : Int), .int .i64 0, undef, undef, undef, undef, undef, undef, undef, undef, undef, undef, undef, undef, undef, undef, undef, undef, undef, undef].getD iU9 undef), (by kernel_rfl), rfl, (Nat.zero_le _), (Nat.zero_le _), x6, (by rw [show allIds vs = allIds (vs.take j) from by rw [List.take_of_length_le (by omega)]]; exact ho0_8), ho104, nb106, nr105, c44⟩
        rintro am1 aa1 wl1 K15 h15 ⟨i, A1_9, n1_9, c1_9, U1, rfl, rfl, hi, hb9, x6, ho1_8, ho1_9, nb1_9_b2, nr1_1_0, c107⟩
        refine wp_seq_k (fun K16 h16 => ?_)
        refine W.region_quiet [(0, false)] (by kernel_rfl) ?_
        by_cases q108 : (((i : Nat) : Int) : Int) < (((n : Nat) : Int) : Int)
        · refine W.sq (v := .bool true) rfl (r_lss (m := ((i : Nat) : Int)) (n := ((n : Nat) : Int)) rfl (by kernel_rfl) (by kernel_rfl) (decide_eq_true q108)) (by kernel_rfl) rfl rfl ?_
          refine W.sch_end (l' := [.agg #[.int .i64 m, .slice A n c], .slice A2 n2 c2, .int .i64 s, .pointer (some ⟨b2, 0, none⟩), undef, undef, .slice none 0 0, .bool false, .slice A0_8 n0_8 c0_8, .slice A1_9 n1_9 c1_9, undef, (U0 11), undef, (U1 13), (U19 14), (U19 15), (U19 16), (U19 17), (U19 18), (U19 19), (U19 20), (U19 21), (U19 22), .bool false, (U39 24), (U39 25), .slice A2 n2 c2, .int .i64 ((n2 : Nat) : Int), .int .i64 ((j : Nat) : Int), .bool false, (U0 30), (U0 31), (U0 32), (U0 33), (U0 34), (U0 35), (U0 36), (U0 37), (U103 38), .slice A n c, .int .i64 ((n : Nat) : Int), .int .i64 ((i : Nat) : Int), .bool true, (U1 43), (U1 44), (U1 45), (U1 46), (U1 47), (U1 48), (U1 49), (U1 50), (U1 51), (U1 52), (U1 53), (U1 54), (U1 55), (U1 56), (U1 57), (U1 58), undef]) (by kernel_rfl) ?_
          refine h16 _ _ ?_
          refine wp_seq_k (fun K17 h17 => ?_)
          refine wp_cond_true (by kernel_rfl) ?_
          refine wp_skip ?_
          refine h17 _ _ ?_
          refine wp_seq_k (fun K18 h18 => ?_)
          refine wp_block ?_
          refine wp_seq_k (fun K19 h19 => ?_)
          refine W.region_plain (row := none) [(0, false), (1, false), (2, true), (3, true)] (by kernel_rfl) ?_
          have s109 := SG.self wl1 none
          obtain ⟨x110, hx111⟩ := get_of (zs := ps) (k := i) (by have := hl; omega)
          have hfx := findL_pos (List.mem_of_getElem? hx111)
          obtain ⟨b112, o113, hA114, hb115, hc116, hc117, hc118, hc119⟩ := Rd.elPipe ha hx111
          refine W.sq (v := .pointer (some ⟨b112, o113 + i * 4, none⟩)) rfl (r_idx (n := n) (c := c) (k := i) rfl (by kernel_rfl) hA114 (by kernel_rfl) (by kernel_rfl) (by have := hl; omega)) (by kernel_rfl) rfl rfl ?_
          refine W.sq (v := .agg #[.int .i64 x110.id, .int .i64 x110.fr, .int .i64 x110.to, .int .i64 x110.sz]) rfl (r_load4 rfl (by kernel_rfl) (by kernel_rfl) (by kernel_rfl) (sgS (later c107 hc116) (by simp)) (sgS (later c107 hc117) (by simp)) (sgS (later c107 hc118) (by simp)) (sgS (later c107 hc119) (by simp))) (by kernel_rfl) rfl rfl ?_
          refine W.sn (fun b => .pointer (some ⟨b, 0, none⟩)) #[.int .i64 0, .int .i64 0, .int .i64 0, .int .i64 0] 72 s109 rfl (by kernel_rfl) rfl (fun _ => by kernel_rfl) (fun b120 w121 hb122 k123 x124 s125 => ?_)
          have lo126 : w.heap.size ≤ b120 := by have := ((SG.belowR c107 s109 (fun kq e => by cases e))).size; omega
          have ne127 : b2 ≠ b120 := by have := blk_lt x6; have := World.grownBy.size s109; omega
          have nb128 : Nb b120 (.slice A0_8 n0_8 c0_8) := nb_hi ho1_8 (Nat.le_of_eq hb122)
          have nb129 : Nb b120 (.slice A1_9 n1_9 c1_9) := nb_hi ho1_9 (Nat.le_of_eq hb122)
          have ho130 := own_kept ho1_8 k123
          have ho131 := own_kept ho1_9 k123
          refine W.ss (v := .agg #[.int .i64 x110.id, .int .i64 x110.fr, .int .i64 x110.to, .int .i64 x110.sz]) (j := 0) (news := [.int .i64 x110.id, .int .i64 x110.fr, .int .i64 x110.to, .int .i64 x110.sz]) (cs' := #[.int .i64 x110.id, .int .i64 x110.fr, .int .i64 x110.to, .int .i64 x110.sz]) s125 rfl (by kernel_rfl) rfl rfl (by kernel_rfl) (by kernel_rfl) x124 (by kernel_rfl) (by kernel_rfl) (by simp) (by kernel_rfl) (by kernel_rfl) (.inr (by have := World.grownBy.size s109; have := hb122; omega)) (fun w132 g133 x134 s135 => ?_)
          have ho136 := own_grown ho130 g133 (fun j e1 e2 => by cases e2; exact nb128 e1.symm)
          have ho137 := own_grown ho131 g133 (fun j e1 e2 => by cases e2; exact nb129 e1.symm)
          refine W.sch_endU (fun U138 => [.agg #[.int .i64 m, .slice A n c], .slice A2 n2 c2, .int .i64 s, .pointer (some ⟨b2, 0, none⟩), undef, undef, .slice none 0 0, .bool false, .slice A0_8 n0_8 c0_8, .slice A1_9 n1_9 c1_9, undef, (U0 11), undef, .pointer (some ⟨b120, 0, none⟩), (U19 14), (U19 15), (U19 16), (U19 17), (U19 18), (U19 19), (U19 20), (U19 21), (U19 22), .bool false, (U39 24), (U39 25), .slice A2 n2 c2, .int .i64 ((n2 : Nat) : Int), .int .i64 ((j : Nat) : Int), .bool false, (U0 30), (U0 31), (U0 32), (U0 33), (U0 34), (U0 35), (U0 36), (U0 37), (U103 38), .slice A n c, .int .i64 ((n : Nat) : Int), .int .i64 ((i : Nat) : Int), .bool true, U138 43, U138 44, (U1 45), (U1 46), (U1 47), (U1 48), (U1 49), (U1 50), (U1 51), (U1 52), (U1 53), (U1 54), (U1 55), (U1 56), (U1 57), (U1 58), undef]) (by kernel_rfl) (fun U138 => ?_)
          have x6 := SG.blk s135 x6 (by simp)
          have c139 := (SG.belowR c107 s135 (fun kq e => by cases e))
          refine h19 _ _ ?_
          refine wp_seq_k (fun K20 h20 => ?_)
          refine W.region_plain (row := none) [(0, false), (1, false), (2, false), (3, false), (4, false), (5, false), (6, true), (7, false)] (by kernel_rfl) ?_
          have s140 := SG.self w132 none
          refine W.sq (v := .agg #[.int .i64 m, .slice A n c]) rfl (r_load2 rfl (by kernel_rfl) (by kernel_rfl) (by kernel_rfl) (sgS (blk_cell (j := 0) x6 (by kernel_rfl)) (by simp)) (sgS (blk_cell (j := 1) x6 (by kernel_rfl)) (by simp))) (by kernel_rfl) rfl rfl ?_
          refine W.sq (v := .slice A2 n2 c2) rfl (r_move rfl (by kernel_rfl)) (by kernel_rfl) rfl rfl ?_
          refine W.sq (v := .int .i64 s) rfl (r_move rfl (by kernel_rfl)) (by kernel_rfl) rfl rfl ?_
          refine W.sq (v := .pointer (some ⟨b120, 0, none⟩)) rfl (r_field0 rfl (by kernel_rfl) (by kernel_rfl)) (by kernel_rfl) rfl rfl ?_
          refine W.sq (v := .int .i64 x110.id) rfl (r_load rfl (by kernel_rfl) (by kernel_rfl) (sgS (blk_cell (j := 0) x134 (by kernel_rfl)) (by simp))) (by kernel_rfl) rfl rfl ?_
          refine W.sq (v := .slice A0_8 n0_8 c0_8) rfl (r_move rfl (by kernel_rfl)) (by kernel_rfl) rfl rfl ?_
          refine W.sc (vs := [.agg #[.int .i64 m, .slice A n c], .slice A2 n2 c2, .int .i64 s, .int .i64 x110.id, .slice A0_8 n0_8 c0_8]) rfl rfl (by kernel_rfl) (by kernel_rfl) (by kernel_rfl) rfl (isolates_any m A n c ps A2 n2 c2 vs s x110.id A0_8 n0_8 c0_8 (allIds vs) _ (Rd.kept ha (SG.belowR c139 s140 (fun kq e => by cases e))) (Rd.kept hb (SG.belowR c139 s140 (fun kq e => by cases e))) (by omega) (by omega) hfm2 hv9 hs9 hfx (own_rd ho136) (by omega)) ?_
          rintro e w142 ⟨rfl, b141⟩
          have s143 := SG.of_below s140 b141
          refine ⟨_, rfl, s143, ?_⟩
          have ho144 := own_kept ho136 b141
          have ho145 := own_kept ho137 b141
          rcases Bool.eq_false_or_eq_true (cutB ps vs s x110.id (allIds vs)) with q146 | q146
          · rw [q146]
            refine W.sq (v := .bool false) rfl (r_not (b := true) rfl (by kernel_rfl) rfl) (by kernel_rfl) rfl rfl ?_
            refine W.sch_endU (fun U147 => [.agg #[.int .i64 m, .slice A n c], .slice A2 n2 c2, .int .i64 s, .pointer (some ⟨b2, 0, none⟩), undef, undef, .slice none 0 0, .bool false, .slice A0_8 n0_8 c0_8, .slice A1_9 n1_9 c1_9, undef, (U0 11), undef, .pointer (some ⟨b120, 0, none⟩), (U19 14), (U19 15), (U19 16), (U19 17), (U19 18), (U19 19), (U19 20), (U19 21), (U19 22), .bool false, (U39 24), (U39 25), .slice A2 n2 c2, .int .i64 ((n2 : Nat) : Int), .int .i64 ((j : Nat) : Int), .bool false, (U0 30), (U0 31), (U0 32), (U0 33), (U0 34), (U0 35), (U0 36), (U0 37), (U103 38), .slice A n c, .int .i64 ((n : Nat) : Int), .int .i64 ((i : Nat) : Int), .bool true, (U138 43), (U138 44), U147 45, U147 46, U147 47, U147 48, U147 49, U147 50, U147 51, .bool false, (U1 53), (U1 54), (U1 55), (U1 56), (U1 57), (U1 58), undef]) (by kernel_rfl) (fun U147 => ?_)
            have x6 := SG.blk s143 x6 (by simp)
            have x134 := SG.blk s143 x134 (by simp)
            have c148 := (SG.belowR c139 s143 (fun kq e => by cases e))
            refine h20 _ _ ?_
            refine wp_cond_false (by kernel_rfl) ?_
            refine wp_skip ?_
            refine h18 _ _ ?_
            refine W.region_quiet [(0, false), (1, false)] (by kernel_rfl) ?_
            refine W.sq (v := .int .i64 ((i + 1 : Nat) : Int)) rfl (r_add (m := ((i : Nat) : Int)) (n := 1) (z := ((i + 1 : Nat) : Int)) rfl (by kernel_rfl) (by kernel_rfl) (by omega) (by omega)) (by kernel_rfl) rfl rfl ?_
            refine W.sq (v := .int .i64 ((i + 1 : Nat) : Int)) rfl (r_move rfl (by kernel_rfl)) (by kernel_rfl) rfl rfl ?_
            refine W.sch_endU (fun U149 => [.agg #[.int .i64 m, .slice A n c], .slice A2 n2 c2, .int .i64 s, .pointer (some ⟨b2, 0, none⟩), undef, undef, .slice none 0 0, .bool false, .slice A0_8 n0_8 c0_8, .slice A1_9 n1_9 c1_9, undef, (U0 11), undef, .pointer (some ⟨b120, 0, none⟩), (U19 14), (U19 15), (U19 16), (U19 17), (U19 18), (U19 19), (U19 20), (U19 21), (U19 22), .bool false, (U39 24), (U39 25), .slice A2 n2 c2, .int .i64 ((n2 : Nat) : Int), .int .i64 ((j : Nat) : Int), .bool false, (U0 30), (U0 31), (U0 32), (U0 33), (U0 34), (U0 35), (U0 36), (U0 37), (U103 38), .slice A n c, .int .i64 ((n : Nat) : Int), .int .i64 ((i + 1 : Nat) : Int), .bool true, (U138 43), (U138 44), (U147 45), (U147 46), (U147 47), (U147 48), (U147 49), (U147 50), (U147 51), .bool false, (U1 53), (U1 54), (U1 55), (U1 56), (U1 57), U149 58, undef]) (by kernel_rfl) (fun U149 => ?_)
            exact h15 _ _ _ (by omega : (n - (i + 1)) < _) ⟨i + 1, A1_9, n1_9, c1_9, (fun iU9 => [.agg #[.int .i64 m, .slice A n c], .slice A2 n2 c2, .int .i64 s, .pointer (some ⟨b2, 0, none⟩), undef, undef, .slice none 0 0, .bool false, .slice A0_8 n0_8 c0_8, .slice A1_9 n1_9 c1_9, undef, (U0 11), undef, .pointer (some ⟨b120, 0, none⟩), (U19 14), (U19 15), (U19 16), (U19 17), (U19 18), (U19 19), (U19 20), (U19 21), (U19 22), .bool false, (U39 24), (U39 25), .slice A2 n2 c2, .int .i64 ((n2 : Nat) : Int), .int .i64 ((j : Nat) : Int), .bool false, (U0 30), (U0 31), (U0 32), (U0 33), (U0 34), (U0 35), (U0 36), (U0 37), (U103 38), .slice A n c, .int .i64 ((n : Nat) : Int), .int .i64 ((i + 1 : Nat) : Int), .bool true, (U138 43), (U138 44), (U147 45), (U147 46), (U147 47), (U147 48), (U147 49), (U147 50), (U147 51), .bool false, (U1 53), (U1 54), (U1 55), (U1 56), (U1 57), (U149 58), undef].getD iU9 undef), (by kernel_rfl), rfl, (by omega), (by omega), x6, ho144, (by rw [hopeL_no hx111 ((cut_all (m := m) s x110.id).symm.trans q146)]; exact ho145), nb1_9_b2, nr1_1_0, c148⟩
          · rw [q146]
            refine W.sq (v := .bool true) rfl (r_not (b := false) rfl (by kernel_rfl) rfl) (by kernel_rfl) rfl rfl ?_
            refine W.sch_endU (fun U150 => [.agg #[.int .i64 m, .slice A n c], .slice A2 n2 c2, .int .i64 s, .pointer (some ⟨b2, 0, none⟩), undef, undef, .slice none 0 0, .bool false, .slice A0_8 n0_8 c0_8, .slice A1_9 n1_9 c1_9, undef, (U0 11), undef, .pointer (some ⟨b120, 0, none⟩), (U19 14), (U19 15), (U19 16), (U19 17), (U19 18), (U19 19), (U19 20), (U19 21), (U19 22), .bool false, (U39 24), (U39 25), .slice A2 n2 c2, .int .i64 ((n2 : Nat) : Int), .int .i64 ((j : Nat) : Int), .bool false, (U0 30), (U0 31), (U0 32), (U0 33), (U0 34), (U0 35), (U0 36), (U0 37), (U103 38), .slice A n c, .int .i64 ((n : Nat) : Int), .int .i64 ((i : Nat) : Int), .bool true, (U138 43), (U138 44), U150 45, U150 46, U150 47, U150 48, U150 49, U150 50, U150 51, .bool true, (U1 53), (U1 54), (U1 55), (U1 56), (U1 57), (U1 58), undef]) (by kernel_rfl) (fun U150 => ?_)
            have x6 := SG.blk s143 x6 (by simp)
            have x134 := SG.blk s143 x134 (by simp)
            have c151 := (SG.belowR c139 s143 (fun kq e => by cases e))
            refine h20 _ _ ?_
            refine wp_cond_true (by kernel_rfl) ?_
            refine W.region_plain (row := (Value.ownBlock (.slice A1_9 n1_9 c1_9))) [(0, false), (1, false), (2, false), (3, true), (4, true), (5, false)] (by kernel_rfl) ?_
            have s152 := SG.self w142 (Value.ownBlock (.slice A1_9 n1_9 c1_9))
            refine W.sq (v := .slice A1_9 n1_9 c1_9) rfl (r_move rfl (by kernel_rfl)) (by kernel_rfl) rfl rfl ?_
            refine W.sq (v := .pointer (some ⟨b120, 0, none⟩)) rfl (r_field0 rfl (by kernel_rfl) (by kernel_rfl)) (by kernel_rfl) rfl rfl ?_
            refine W.sq (v := .int .i64 x110.id) rfl (r_load rfl (by kernel_rfl) (by kernel_rfl) (sgS (blk_cell (j := 0) x134 (by kernel_rfl)) nb129)) (by kernel_rfl) rfl rfl ?_
            refine W.sn (fun b => .slice (some ⟨b, 0, none⟩) 1 1) #[.int .i64 x110.id] 3 s152 rfl (by kernel_rfl) rfl (fun _ => by kernel_rfl) (fun b153 w154 hb155 k156 x157 s158 => ?_)
            have lo159 : w.heap.size ≤ b153 := by have := ((SG.belowR c151 s152 (fun kq e => (World.ownsRow.lt ho145 kq e).1))).size; omega
            have ne160 : b2 ≠ b153 := by have := blk_lt x6; have := World.grownBy.size s152; omega
            have ne161 : b120 ≠ b153 := by have := blk_lt x134; have := World.grownBy.size s152; omega
            have nb162 : Nb b153 (.slice A0_8 n0_8 c0_8) := nb_hi ho144 (Nat.le_of_eq hb155)
            have nb163 : Nb b153 (.slice A1_9 n1_9 c1_9) := nb_hi ho145 (Nat.le_of_eq hb155)
            have ho164 := own_kept ho144 k156
            have ho165 := own_kept ho145 k156
            refine W.sap (e := 3) (size := 1) (base := w.heap.size) (m := 1) (v := .slice A1_9 n1_9 c1_9) (c := 1) s158 rfl rfl rfl rfl (by kernel_rfl) (by kernel_rfl) (by kernel_rfl) ho165 x157 (by kernel_rfl) (by kernel_rfl) (by omega) (by omega) (by have := ((SG.belowR c151 s158 (fun kq e => (World.ownsRow.lt ho145 kq e).1))).size; omega) (.inl rfl) (fun g166 cap167 w168 ho169 hg170 hat171 hlt172 s173 => ?_)
            have nb174 : Nb b2 (.slice (some ⟨g166, 0, none⟩) (n1_9 + 1) cap167) := nb_app nb1_9_b2 (Nat.lt_of_lt_of_le (blk_lt x6) (World.grownBy.size s158)) hat171
            have nb175 : Nb b120 (.slice (some ⟨g166, 0, none⟩) (n1_9 + 1) cap167) := nb_app nb129 (Nat.lt_of_lt_of_le (blk_lt x134) (World.grownBy.size s158)) hat171
            have nb176 : Nb b153 (.slice (some ⟨g166, 0, none⟩) (n1_9 + 1) cap167) := nb_app nb163 (blk_lt x157) hat171
            have x157 := (hg170.block _ (blk_lt x157) nb163).trans x157
            have ho169 := own_snoc ho169
            have nr177 : NbR (.slice (some ⟨g166, 0, none⟩) (n1_9 + 1) cap167) (.slice A0_8 n0_8 c0_8) := nbr_app nr1_1_0 (fun j h => (World.ownsRow.lt ho164 j h).2) (hat3 (v := .slice A1_9 n1_9 c1_9) hat171)
            have ho178 := own_grown ho164 hg170 (NbR.symm nr1_1_0)
            refine W.sq (v := .slice (some ⟨g166, 0, none⟩) (n1_9 + 1) cap167) rfl (r_assign rfl (by kernel_rfl)) (by kernel_rfl) rfl rfl ?_
            refine W.sch_endU (fun U179 => [.agg #[.int .i64 m, .slice A n c], .slice A2 n2 c2, .int .i64 s, .pointer (some ⟨b2, 0, none⟩), undef, undef, .slice none 0 0, .bool false, .slice A0_8 n0_8 c0_8, .slice (some ⟨g166, 0, none⟩) (n1_9 + 1) cap167, undef, (U0 11), undef, .pointer (some ⟨b120, 0, none⟩), (U19 14), (U19 15), (U19 16), (U19 17), (U19 18), (U19 19), (U19 20), (U19 21), (U19 22), .bool false, (U39 24), (U39 25), .slice A2 n2 c2, .int .i64 ((n2 : Nat) : Int), .int .i64 ((j : Nat) : Int), .bool false, (U0 30), (U0 31), (U0 32), (U0 33), (U0 34), (U0 35), (U0 36), (U0 37), (U103 38), .slice A n c, .int .i64 ((n : Nat) : Int), .int .i64 ((i : Nat) : Int), .bool true, (U138 43), (U138 44), (U150 45), (U150 46), (U150 47), (U150 48), (U150 49), (U150 50), (U150 51), .bool true, U179 53, U179 54, U179 55, U179 56, U179 57, (U1 58), undef]) (by kernel_rfl) (fun U179 => ?_)
            have x6 := SG.blk s173 x6 nb1_9_b2
            have x134 := SG.blk s173 x134 nb129
            have c180 := (SG.belowR c151 s173 (fun kq e => (World.ownsRow.lt ho145 kq e).1))
            refine h18 _ _ ?_
            refine W.region_quiet [(0, false), (1, false)] (by kernel_rfl) ?_
            refine W.sq (v := .int .i64 ((i + 1 : Nat) : Int)) rfl (r_add (m := ((i : Nat) : Int)) (n := 1) (z := ((i + 1 : Nat) : Int)) rfl (by kernel_rfl) (by kernel_rfl) (by omega) (by omega)) (by kernel_rfl) rfl rfl ?_
            refine W.sq (v := .int .i64 ((i + 1 : Nat) : Int)) rfl (r_move rfl (by kernel_rfl)) (by kernel_rfl) rfl rfl ?_
            refine W.sch_endU (fun U181 => [.agg #[.int .i64 m, .slice A n c], .slice A2 n2 c2, .int .i64 s, .pointer (some ⟨b2, 0, none⟩), undef, undef, .slice none 0 0, .bool false, .slice A0_8 n0_8 c0_8, .slice (some ⟨g166, 0, none⟩) (n1_9 + 1) cap167, undef, (U0 11), undef, .pointer (some ⟨b120, 0, none⟩), (U19 14), (U19 15), (U19 16), (U19 17), (U19 18), (U19 19), (U19 20), (U19 21), (U19 22), .bool false, (U39 24), (U39 25), .slice A2 n2 c2, .int .i64 ((n2 : Nat) : Int), .int .i64 ((j : Nat) : Int), .bool false, (U0 30), (U0 31), (U0 32), (U0 33), (U0 34), (U0 35), (U0 36), (U0 37), (U103 38), .slice A n c, .int .i64 ((n : Nat) : Int), .int .i64 ((i + 1 : Nat) : Int), .bool true, (U138 43), (U138 44), (U150 45), (U150 46), (U150 47), (U150 48), (U150 49), (U150 50), (U150 51), .bool true, (U179 53), (U179 54), (U179 55), (U179 56), (U179 57), U181 58, undef]) (by kernel_rfl) (fun U181 => ?_)
            exact h15 _ _ _ (by omega : (n - (i + 1)) < _) ⟨i + 1, (some ⟨g166, 0, none⟩), (n1_9 + 1), cap167, (fun iU9 => [.agg #[.int .i64 m, .slice A n c], .slice A2 n2 c2, .int .i64 s, .pointer (some ⟨b2, 0, none⟩), undef, undef, .slice none 0 0, .bool false, .slice A0_8 n0_8 c0_8, .slice (some ⟨g166, 0, none⟩) (n1_9 + 1) cap167, undef, (U0 11), undef, .pointer (some ⟨b120, 0, none⟩), (U19 14), (U19 15), (U19 16), (U19 17), (U19 18), (U19 19), (U19 20), (U19 21), (U19 22), .bool false, (U39 24), (U39 25), .slice A2 n2 c2, .int .i64 ((n2 : Nat) : Int), .int .i64 ((j : Nat) : Int), .bool false, (U0 30), (U0 31), (U0 32), (U0 33), (U0 34), (U0 35), (U0 36), (U0 37), (U103 38), .slice A n c, .int .i64 ((n : Nat) : Int), .int .i64 ((i + 1 : Nat) : Int), .bool true, (U138 43), (U138 44), (U150 45), (U150 46), (U150 47), (U150 48), (U150 49), (U150 50), (U150 51), .bool true, (U179 53), (U179 54), (U179 55), (U179 56), (U179 57), (U181 58), undef].getD iU9 undef), (by kernel_rfl), rfl, (by omega), (by omega), x6, ho178, (by rw [hopeL_yes hx111 ((cut_all (m := m) s x110.id).symm.trans q146)]; exact ho169), nb174, nr177, c180⟩
        · refine W.sq (v := .bool false) rfl (r_lss (m := ((i : Nat) : Int)) (n := ((n : Nat) : Int)) rfl (by kernel_rfl) (by kernel_rfl) (decide_eq_false q108)) (by kernel_rfl) rfl rfl ?_
          refine W.sch_end (l' := [.agg #[.int .i64 m, .slice A n c], .slice A2 n2 c2, .int .i64 s, .pointer (some ⟨b2, 0, none⟩), undef, undef, .slice none 0 0, .bool false, .slice A0_8 n0_8 c0_8, .slice A1_9 n1_9 c1_9, undef, (U0 11), undef, (U1 13), (U19 14), (U19 15), (U19 16), (U19 17), (U19 18), (U19 19), (U19 20), (U19 21), (U19 22), .bool false, (U39 24), (U39 25), .slice A2 n2 c2, .int .i64 ((n2 : Nat) : Int), .int .i64 ((j : Nat) : Int), .bool false, (U0 30), (U0 31), (U0 32), (U0 33), (U0 34), (U0 35), (U0 36), (U0 37), (U103 38), .slice A n c, .int .i64 ((n : Nat) : Int), .int .i64 ((i : Nat) : Int), .bool false, (U1 43), (U1 44), (U1 45), (U1 46), (U1 47), (U1 48), (U1 49), (U1 50), (U1 51), (U1 52), (U1 53), (U1 54), (U1 55), (U1 56), (U1 57), (U1 58), undef]) (by kernel_rfl) ?_
          refine h16 _ _ ?_
          refine wp_seq_k (fun K21 h21 => ?_)
          refine wp_cond_false (by kernel_rfl) ?_
          refine wp_exit ?_
          refine h13 _ _ ?_
          refine wp_seq_k (fun K22 h22 => ?_)
          refine W.region_quiet [(0, false), (1, false), (2, false)] (by kernel_rfl) ?_
          refine W.sq (v := .slice A1_9 n1_9 c1_9) rfl (r_move rfl (by kernel_rfl)) (by kernel_rfl) rfl rfl ?_
          refine W.sq (v := .slice A1_9 n1_9 c1_9) rfl (r_assign rfl (by kernel_rfl)) (by kernel_rfl) rfl rfl ?_
          refine W.sq (v := .bool true) rfl (r_assign rfl (by kernel_rfl)) (by kernel_rfl) rfl rfl ?_
          refine W.sch_endU (fun U182 => [.agg #[.int .i64 m, .slice A n c], .slice A2 n2 c2, .int .i64 s, .pointer (some ⟨b2, 0, none⟩), undef, undef, .slice A1_9 n1_9 c1_9, .bool true, .slice A0_8 n0_8 c0_8, .slice A1_9 n1_9 c1_9, undef, (U0 11), undef, (U1 13), (U19 14), (U19 15), (U19 16), (U19 17), (U19 18), (U19 19), (U19 20), (U19 21), (U19 22), .bool false, (U39 24), (U39 25), .slice A2 n2 c2, .int .i64 ((n2 : Nat) : Int), .int .i64 ((j : Nat) : Int), .bool false, (U0 30), (U0 31), (U0 32), (U0 33), (U0 34), (U0 35), (U0 36), (U0 37), (U103 38), .slice A n c, .int .i64 ((n : Nat) : Int), .int .i64 ((i : Nat) : Int), .bool false, (U1 43), (U1 44), (U1 45), (U1 46), (U1 47), (U1 48), (U1 49), (U1 50), (U1 51), (U1 52), (U1 53), (U1 54), (U1 55), (U1 56), (U1 57), (U1 58), U182 59]) (by kernel_rfl) (fun U182 => ?_)
          refine h22 _ _ ?_
          refine wp_ret ?_
          try simp only [Exit.then]
          refine ret2 (v := .slice A1_9 n1_9 c1_9) (x := .bool true) rfl (by kernel_rfl) (by kernel_rfl) ?_
          have e8 : HopelessPipes_v1 m ps vs s = true := by unfold HopelessPipes_v1; rw [q14, q18]; rfl
          exact fin_ints  ho1_9 (by unfold HopelessPipes_v0; rw [if_pos e8, List.take_of_length_le (by omega)]) e8.symm c107
    · rw [q18]
      refine W.sq (v := .bool true) rfl (r_not (b := false) rfl (by kernel_rfl) rfl) (by kernel_rfl) rfl rfl ?_
      refine W.sq (v := .bool true) rfl (r_pick (b := false) rfl (by kernel_rfl) (by kernel_rfl)) (by kernel_rfl) rfl rfl ?_
      refine W.sch_endU (fun U183 => [.agg #[.int .i64 m, .slice A n c], .slice A2 n2 c2, .int .i64 s, .pointer (some ⟨b2, 0, none⟩), undef, undef, .slice none 0 0, .bool false, undef, undef, undef, undef, undef, undef, U183 14, U183 15, U183 16, U183 17, U183 18, U183 19, U183 20, U183 21, U183 22, .bool true, undef, undef, undef, undef, undef, undef, undef, undef, undef, undef, undef, undef, undef, undef, undef, undef, undef, undef, undef, undef, undef, undef, undef, undef, undef, undef, undef, undef, undef, undef, undef, undef, undef, undef, undef, undef]) (by kernel_rfl) (fun U183 => ?_)
      have x6 := SG.blk s17 x6 (by simp)
      have c184 := (SG.belowR c9 s17 (fun kq e => by cases e))
      refine h3 _ _ ?_
      refine wp_cond_true (by kernel_rfl) ?_
      refine wp_seq_k (fun K23 h23 => ?_)
      refine W.region_quiet [(0, false), (1, false)] (by kernel_rfl) ?_
      refine W.sq (v := .slice none 0 0) rfl (r_assign rfl (by kernel_rfl)) (by kernel_rfl) rfl rfl ?_
      refine W.sq (v := .bool false) rfl (r_assign rfl (by kernel_rfl)) (by kernel_rfl) rfl rfl ?_
      refine W.sch_end (l' := [.agg #[.int .i64 m, .slice A n c], .slice A2 n2 c2, .int .i64 s, .pointer (some ⟨b2, 0, none⟩), undef, undef, .slice none 0 0, .bool false, undef, undef, undef, undef, undef, undef, (U183 14), (U183 15), (U183 16), (U183 17), (U183 18), (U183 19), (U183 20), (U183 21), (U183 22), .bool true, undef, undef, undef, undef, undef, undef, undef, undef, undef, undef, undef, undef, undef, undef, undef, undef, undef, undef, undef, undef, undef, undef, undef, undef, undef, undef, undef, undef, undef, undef, undef, undef, undef, undef, undef, undef]) (by kernel_rfl) ?_
      refine h23 _ _ ?_
      refine wp_ret ?_
      try simp only [Exit.then]
      refine ret2 (v := .slice none 0 0) (x := .bool false) rfl (by kernel_rfl) (by kernel_rfl) ?_
      have e8 : HopelessPipes_v1 m ps vs s = false := by unfold HopelessPipes_v1; rw [q18, Bool.and_false]
      exact fin_ints (zs := []) (World.ownsRow_nil _ _ _ _) (by unfold HopelessPipes_v0; rw [if_neg (by rw [e8]; simp)]) e8.symm c184
  · rw [q14]
    refine W.sq (v := .bool true) rfl (r_not (b := false) rfl (by kernel_rfl) rfl) (by kernel_rfl) rfl rfl ?_
    refine W.sq (v := .bool true) rfl (r_move rfl (by kernel_rfl)) (by kernel_rfl) rfl rfl ?_
    refine W.sk s13 rfl (by kernel_rfl) rfl rfl ?_
    refine W.sk s13 rfl (by kernel_rfl) rfl rfl ?_
    refine W.sk s13 rfl (by kernel_rfl) rfl rfl ?_
    refine W.sk s13 rfl (by kernel_rfl) rfl rfl ?_
    refine W.sq (v := .bool true) rfl (r_pick (b := true) rfl (by kernel_rfl) (by kernel_rfl)) (by kernel_rfl) rfl rfl ?_
    refine W.sch_endU (fun U185 => [.agg #[.int .i64 m, .slice A n c], .slice A2 n2 c2, .int .i64 s, .pointer (some ⟨b2, 0, none⟩), undef, undef, .slice none 0 0, .bool false, undef, undef, undef, undef, undef, undef, U185 14, U185 15, U185 16, U185 17, U185 18, undef, undef, undef, undef, .bool true, undef, undef, undef, undef, undef, undef, undef, undef, undef, undef, undef, undef, undef, undef, undef, undef, undef, undef, undef, undef, undef, undef, undef, undef, undef, undef, undef, undef, undef, undef, undef, undef, undef, undef, undef, undef]) (by kernel_rfl) (fun U185 => ?_)
    have x6 := SG.blk s13 x6 (by simp)
    have c186 := (SG.belowR c9 s13 (fun kq e => by cases e))
    refine h3 _ _ ?_
    refine wp_cond_true (by kernel_rfl) ?_
    refine wp_seq_k (fun K24 h24 => ?_)
    refine W.region_quiet [(0, false), (1, false)] (by kernel_rfl) ?_
    refine W.sq (v := .slice none 0 0) rfl (r_assign rfl (by kernel_rfl)) (by kernel_rfl) rfl rfl ?_
    refine W.sq (v := .bool false) rfl (r_assign rfl (by kernel_rfl)) (by kernel_rfl) rfl rfl ?_
    refine W.sch_end (l' := [.agg #[.int .i64 m, .slice A n c], .slice A2 n2 c2, .int .i64 s, .pointer (some ⟨b2, 0, none⟩), undef, undef, .slice none 0 0, .bool false, undef, undef, undef, undef, undef, undef, (U185 14), (U185 15), (U185 16), (U185 17), (U185 18), undef, undef, undef, undef, .bool true, undef, undef, undef, undef, undef, undef, undef, undef, undef, undef, undef, undef, undef, undef, undef, undef, undef, undef, undef, undef, undef, undef, undef, undef, undef, undef, undef, undef, undef, undef, undef, undef, undef, undef, undef, undef]) (by kernel_rfl) ?_
    refine h24 _ _ ?_
    refine wp_ret ?_
    try simp only [Exit.then]
    refine ret2 (v := .slice none 0 0) (x := .bool false) rfl (by kernel_rfl) (by kernel_rfl) ?_
    have e8 : HopelessPipes_v1 m ps vs s = false := by unfold HopelessPipes_v1; rw [q14]; rfl
    exact fin_ints (zs := []) (World.ownsRow_nil _ _ _ _) (by unfold HopelessPipes_v0; rw [if_neg (by rw [e8]; simp)]) e8.symm c186

set_option maxRecDepth 100000 in
set_option maxHeartbeats 1000000 in
theorem HopelessPipes_spec (m : Int) (A : Option Addr) (n c : Nat) (ps : List Pp) (A2 : Option Addr) (n2 c2 : Nat) (vs : List Vv) (s : Int) (w : World) (ha : Rd w 4 A n (pipesV ps)) (hb : Rd w 4 A2 n2 (valvesV vs)) (hn : n ≤ 1048576) (hn2 : n2 ≤ 1048576) (hfm : Fm A n c) (hfm2 : Fm A2 n2 c2) :
    Calls Try.prog 35 #[.agg #[.int .i64 m, .slice A n c], .slice A2 n2 c2, .int .i64 s] w fun e w' => ∃ A' d, e = .returned (.tuple #[.slice A' (HopelessPipes_v0 m ps vs s).length d, .bool (HopelessPipes_v1 m ps vs s)]) ∧ Rd w' 1 A' (HopelessPipes_v0 m ps vs s).length (intsV (HopelessPipes_v0 m ps vs s)) ∧ Below w.heap.size w w' := by
  have hl := rd_pipes_len ha
  have hl2 := rd_valves_len hb
  go_enter Try.func35, Try.ntmps35
  refine wp_seq_k (fun K1 h1 => ?_)
  refine W.region_plain (row := none) [(0, true), (1, false), (2, false)] (by kernel_rfl) ?_
  have s1 := SG.self w none
  refine W.sn (fun b => .pointer (some ⟨b, 0, none⟩)) #[.int .i64 m, .slice A n c] 32 s1 rfl (by kernel_rfl) rfl (fun _ => by kernel_rfl) (fun b2 w3 hb4 k5 x6 s7 => ?_)
  have lo8 : w.heap.size ≤ b2 := by have := ((SG.belowR (Below.refl _ _) s1 (fun kq e => by cases e))).size; omega
  refine W.sq (v := .slice none 0 0) rfl (r_assign rfl (by kernel_rfl)) (by kernel_rfl) rfl rfl ?_
  refine W.sq (v := .bool false) rfl (r_assign rfl (by kernel_rfl)) (by kernel_rfl) rfl rfl ?_
  refine W.sch_end (l' := [.agg #[.int .i64 m, .slice A n c], .slice A2 n2 c2, .int .i64 s, .pointer (some ⟨b2, 0, none⟩), undef, undef, .slice none 0 0, .bool false, undef, undef, undef, undef, undef, undef, undef, undef, undef, undef, undef, undef, undef, undef, undef, undef, undef, undef, undef, undef, undef, undef, undef, undef, undef, undef, undef, undef, undef, undef, undef, undef, undef, undef, undef, undef, undef, undef, undef, undef, undef, undef, undef, undef]) (by kernel_rfl) ?_
  have c9 := (SG.belowR (Below.refl _ _) s7 (fun kq e => by cases e))
  refine h1 _ _ ?_
  refine wp_seq_k (fun K2 h2 => ?_)
  refine W.region_plain (row := none) [(0, true), (1, false)] (by kernel_rfl) ?_
  have s10 := SG.self w3 none
  refine W.sn (fun b => .slice (some ⟨b, 0, none⟩) 0 0) #[] 3 s10 rfl (by kernel_rfl) rfl (fun _ => by kernel_rfl) (fun b11 w12 hb13 k14 x15 s16 => ?_)
  have lo17 : w.heap.size ≤ b11 := by have := ((SG.belowR c9 s10 (fun kq e => by cases e))).size; omega
  have ne18 : b2 ≠ b11 := by have := blk_lt x6; have := World.grownBy.size s10; omega
  refine W.sq (v := .slice (some ⟨b11, 0, none⟩) 0 0) rfl (r_assign rfl (by kernel_rfl)) (by kernel_rfl) rfl rfl ?_
  refine W.sch_endU (fun U19 => [.agg #[.int .i64 m, .slice A n c], .slice A2 n2 c2, .int .i64 s, .pointer (some ⟨b2, 0, none⟩), undef, undef, .slice none 0 0, .bool false, .slice (some ⟨b11, 0, none⟩) 0 0, undef, U19 10, undef, undef, undef, undef, undef, undef, undef, undef, undef, undef, undef, undef, undef, undef, undef, undef, undef, undef, undef, undef, undef, undef, undef, undef, undef, undef, undef, undef, undef, undef, undef, undef, undef, undef, undef, undef, undef, undef, undef, undef, undef]) (by kernel_rfl) (fun U19 => ?_)
  have x6 := SG.blk s16 x6 (by simp)
  have c20 := (SG.belowR c9 s16 (fun kq e => by cases e))
  refine h2 _ _ ?_
  refine wp_seq_k (fun K3 h3 => ?_)
  refine wp_seq_k (fun K4 h4 => ?_)
  refine W.region_plain (row := none) [(0, false), (1, false), (2, true), (3, false), (4, false), (5, false), (6, false), (7, true), (8, false), (9, false)] (by kernel_rfl) ?_
  have s21 := SG.self w12 none
  refine W.sq (v := .agg #[.int .i64 m, .slice A n c]) rfl (r_load2 rfl (by kernel_rfl) (by kernel_rfl) (by kernel_rfl) (sgS (blk_cell (j := 0) x6 (by kernel_rfl)) (by simp)) (sgS (blk_cell (j := 1) x6 (by kernel_rfl)) (by simp))) (by kernel_rfl) rfl rfl ?_
  refine W.sq (v := .slice A2 n2 c2) rfl (r_move rfl (by kernel_rfl)) (by kernel_rfl) rfl rfl ?_
  refine W.sc (vs := [.agg #[.int .i64 m, .slice A n c], .slice A2 n2 c2]) rfl rfl (by kernel_rfl) (by kernel_rfl) (by kernel_rfl) rfl (l4Good_any m A n c ps A2 n2 c2 vs _ (Rd.kept ha (SG.belowR c20 s21 (fun kq e => by cases e))) (Rd.kept hb (SG.belowR c20 s21 (fun kq e => by cases e))) (by omega) (by omega)) ?_
  rintro e w23 ⟨rfl, b22⟩
  have s24 := SG.of_below s21 b22
  refine ⟨_, rfl, s24, ?_⟩
  rcases Bool.eq_false_or_eq_true (goodV m ps vs) with q25 | q25
  · rw [q25]
    have hv9 := goodV_of q25
    have hg := hv9.net
    have hgl := hg.lo
    have hgh := hg.hi
    have hp := hg.pipesIn
    have hlen10 := hg.len
    have hu := hv9.uniq
    have hvl := hv9.len
    refine W.sq (v := .bool false) rfl (r_not (b := true) rfl (by kernel_rfl) rfl) (by kernel_rfl) rfl rfl ?_
    refine W.sq (v := .bool false) rfl (r_move rfl (by kernel_rfl)) (by kernel_rfl) rfl rfl ?_
    refine W.sq (v := .agg #[.int .i64 m, .slice A n c]) rfl (r_load2 rfl (by kernel_rfl) (by kernel_rfl) (by kernel_rfl) (sgS (blk_cell (j := 0) x6 (by kernel_rfl)) (by simp)) (sgS (blk_cell (j := 1) x6 (by kernel_rfl)) (by simp))) (by kernel_rfl) rfl rfl ?_
    refine W.sq (v := .int .i64 s) rfl (r_move rfl (by kernel_rfl)) (by kernel_rfl) rfl rfl ?_
    refine W.sc (vs := [.agg #[.int .i64 m, .slice A n c], .int .i64 s]) rfl rfl (by kernel_rfl) (by kernel_rfl) (by kernel_rfl) rfl (l2Node_any m A n c ps s _ (Rd.kept ha (SG.belowR c20 s24 (fun kq e => by cases e))) (by omega)) ?_
    rintro e w27 ⟨rfl, b26⟩
    have s28 := SG.of_below s24 b26
    refine ⟨_, rfl, s28, ?_⟩
    rcases Bool.eq_false_or_eq_true (goodN m ps && inB s 1 m) with q29 | q29
    · rw [q29]
      have q30 : inB s 1 m = true := (Bool.and_eq_true_iff.1 q29).2
      have hs9 := inB_iff.1 q30
      refine W.sq (v := .bool false) rfl (r_not (b := true) rfl (by kernel_rfl) rfl) (by kernel_rfl) rfl rfl ?_
      refine W.sq (v := .bool false) rfl (r_pick (b := false) rfl (by kernel_rfl) (by kernel_rfl)) (by kernel_rfl) rfl rfl ?_
      refine W.sch_endU (fun U31 => [.agg #[.int .i64 m, .slice A n c], .slice A2 n2 c2, .int .i64 s, .pointer (some ⟨b2, 0, none⟩), undef, undef, .slice none 0 0, .bool false, .slice (some ⟨b11, 0, none⟩) 0 0, undef, (U19 10), U31 11, U31 12, U31 13, U31 14, U31 15, U31 16, U31 17, U31 18, U31 19, .bool false, undef, undef, undef, undef, undef, undef, undef, undef, undef, undef, undef, undef, undef, undef, undef, undef, undef, undef, undef, undef, undef, undef, undef, undef, undef, undef, undef, undef, undef, undef, undef]) (by kernel_rfl) (fun U31 => ?_)
      have x6 := SG.blk s28 x6 (by simp)
      have x15 := SG.blk s28 x15 (by simp)
      have c32 := (SG.belowR c20 s28 (fun kq e => by cases e))
      refine h4 _ _ ?_
      refine wp_cond_false (by kernel_rfl) ?_
      refine wp_skip ?_
      refine h3 _ _ ?_
      refine wp_seq_k (fun K5 h5 => ?_)
      refine wp_seq_k (fun K6 h6 => ?_)
      refine W.region_quiet [(0, false)] (by kernel_rfl) ?_
      refine W.sq (v := .int .i64 0) rfl (r_assign rfl (by kernel_rfl)) (by kernel_rfl) rfl rfl ?_
      refine W.sch_end (l' := [.agg #[.int .i64 m, .slice A n c], .slice A2 n2 c2, .int .i64 s, .pointer (some ⟨b2, 0, none⟩), undef, undef, .slice none 0 0, .bool false, .slice (some ⟨b11, 0, none⟩) 0 0, .int .i64 0, (U19 10), (U31 11), (U31 12), (U31 13), (U31 14), (U31 15), (U31 16), (U31 17), (U31 18), (U31 19), .bool false, undef, undef, undef, undef, undef, undef, undef, undef, undef, undef, undef, undef, undef, undef, undef, undef, undef, undef, undef, undef, undef, undef, undef, undef, undef, undef, undef, undef, undef, undef, undef]) (by kernel_rfl) ?_
      refine h6 _ _ ?_
      refine wp_block ?_
      have ho33 := own_empty (base := w.heap.size) (size := 1) x15 lo17
      replace ho33 : World.ownsRow _ _ _ _ _ _ (intsV []) := ho33
      have nb34 : Nb b2 (.slice (some ⟨b11, 0, none⟩) 0 0) := nb_new (by have := ne18; omega)
      refine loopK (fun am0 aa0 wl0 => ∃ (i : Nat) (A0_8 : Option Addr) (n0_8 : Nat) (c0_8 : Nat) (U0 : Nat → Value), aa0 = ⟨[.agg #[.int .i64 m, .slice A n c], .slice A2 n2 c2, .int .i64 s, .pointer (some ⟨b2, 0, none⟩), undef, undef, .slice none 0 0, .bool false, .slice A0_8 n0_8 c0_8, .int .i64 ((i : Nat) : Int), (U19 10), (U31 11), (U31 12), (U31 13), (U31 14), (U31 15), (U31 16), (U31 17), (U31 18), (U31 19), .bool false, undef, U0 22, U0 23, U0 24, U0 25, U0 26, U0 27, U0 28, U0 29, U0 30, U0 31, U0 32, U0 33, U0 34, U0 35, U0 36, U0 37, U0 38, U0 39, U0 40, U0 41, U0 42, U0 43, U0 44, U0 45, U0 46, U0 47, U0 48, U0 49, U0 50, undef].toArray, []⟩ ∧ (am0 = n - i) ∧ (i ≤ n) ∧ (n0_8 ≤ i) ∧ (wl0.heap[b2]? = some (.cells #[.int .i64 m, .slice A n c] 32 (0, 0))) ∧ (wl0.ownsRow w.heap.size 3 1 (.slice A0_8 n0_8 c0_8) n0_8 (intsV (hopeL ps vs s (ps.take i)))) ∧ (Nb b2 (.slice A0_8 n0_8 c0_8)) ∧ (Below w.heap.size w wl0)) (n - 0) ?_ ?_
      · exact ⟨0, (some ⟨b11, 0, none⟩), 0, 0, (fun iU9 => [.agg #[.int .i64 m, .slice A n c], .slice A2 n2 c2, .int .i64 s, .pointer (some ⟨b2, 0, none⟩), undef, undef, .slice none 0 0, .bool false, .slice (some ⟨b11, 0, none⟩) 0 0, .int .i64 0, (U19 10), (U31 11), (U31 12), (U31 13), (U31 14), (U31 15), (U31 16), (U31 17), (U31 18), (U31 19), .bool false, undef, undef, undef, undef, undef, undef, undef, undef, undef, undef, undef, undef, undef, undef, undef, undef, undef, undef, undef, undef, undef, undef, undef, undef, undef, undef, undef, undef, undef, undef, undef].getD iU9 undef), (by kernel_rfl), rfl, (Nat.zero_le _), (Nat.zero_le _), x6, ho33, nb34, c32⟩
      rintro am0 aa0 wl0 K7 h7 ⟨i, A0_8, n0_8, c0_8, U0, rfl, rfl, hi, hb8, x6, ho0_8, nb0_8_b2, c35⟩
      refine wp_seq_k (fun K8 h8 => ?_)
      refine wp_seq_k (fun K9 h9 => ?_)
      refine W.region_quiet [(0, false), (1, false), (2, false), (3, false), (4, false)] (by kernel_rfl) ?_
      refine W.sq (v := .int .i64 ((i : Nat) : Int)) rfl (r_move rfl (by kernel_rfl)) (by kernel_rfl) rfl rfl ?_
      refine W.sq (v := .pointer (some ⟨b2, 1, none⟩)) rfl (r_field (k := 1) rfl (by kernel_rfl) (by kernel_rfl)) (by kernel_rfl) rfl rfl ?_
      refine W.sq (v := .slice A n c) rfl (r_load rfl (by kernel_rfl) (by kernel_rfl) (eqS (blk_cell (j := 1) x6 (by kernel_rfl)))) (by kernel_rfl) rfl rfl ?_
      refine W.sq (v := .int .i64 ((n : Nat) : Int)) rfl (r_len (A := A) (n := n) (c := c) rfl (by kernel_rfl) (by kernel_rfl)) (by kernel_rfl) rfl rfl ?_
      by_cases q36 : (((i : Nat) : Int) : Int) < (((n : Nat) : Int) : Int)
      · refine W.sq (v := .bool true) rfl (r_lss (m := ((i : Nat) : Int)) (n := ((n : Nat) : Int)) rfl (by kernel_rfl) (by kernel_rfl) (decide_eq_true q36)) (by kernel_rfl) rfl rfl ?_
        refine W.sch_endU (fun U37 => [.agg #[.int .i64 m, .slice A n c], .slice A2 n2 c2, .int .i64 s, .pointer (some ⟨b2, 0, none⟩), undef, undef, .slice none 0 0, .bool false, .slice A0_8 n0_8 c0_8, .int .i64 ((i : Nat) : Int), (U19 10), (U31 11), (U31 12), (U31 13), (U31 14), (U31 15), (U31 16), (U31 17), (U31 18), (U31 19), .bool false, undef, U37 22, U37 23, U37 24, U37 25, .bool true, (U0 27), (U0 28), (U0 29), (U0 30), (U0 31), (U0 32), (U0 33), (U0 34), (U0 35), (U0 36), (U0 37), (U0 38), (U0 39), (U0 40), (U0 41), (U0 42), (U0 43), (U0 44), (U0 45), (U0 46), (U0 47), (U0 48), (U0 49), (U0 50), undef]) (by kernel_rfl) (fun U37 => ?_)
        refine h9 _ _ ?_
        refine wp_cond_true (by kernel_rfl) ?_
        refine wp_skip ?_
        refine h8 _ _ ?_
        refine wp_seq_k (fun K10 h10 => ?_)
        refine wp_block ?_
        refine wp_seq_k (fun K11 h11 => ?_)
        refine W.region_sch (row := none) (Sch.of [(0, false), (1, false), (2, false), (3, false), (4, false), (5, false), (6, false), (7, false), (8, false), (9, false), (10, true), (11, true), (12, false)]) (by kernel_rfl) (by kernel_rfl) (fun _ d _ _ _ h => by cases d <;> exact h) (by kernel_rfl) (fun w38 e39 s40 => ?_)
        have ho41 := own_heap ho0_8 e39
        refine W.sq (v := .agg #[.int .i64 m, .slice A n c]) rfl (r_load2 rfl (by kernel_rfl) (by kernel_rfl) (by kernel_rfl) (sgS (blk_cell (j := 0) x6 (by kernel_rfl)) (by simp)) (sgS (blk_cell (j := 1) x6 (by kernel_rfl)) (by simp))) (by kernel_rfl) rfl rfl ?_
        refine W.sq (v := .slice A2 n2 c2) rfl (r_move rfl (by kernel_rfl)) (by kernel_rfl) rfl rfl ?_
        refine W.sq (v := .int .i64 s) rfl (r_move rfl (by kernel_rfl)) (by kernel_rfl) rfl rfl ?_
        refine W.sq (v := .pointer (some ⟨b2, 1, none⟩)) rfl (r_field (k := 1) rfl (by kernel_rfl) (by kernel_rfl)) (by kernel_rfl) rfl rfl ?_
        refine W.sq (v := .slice A n c) rfl (r_load rfl (by kernel_rfl) (by kernel_rfl) (sgS (blk_cell (j := 1) x6 (by kernel_rfl)) (by simp))) (by kernel_rfl) rfl rfl ?_
        refine W.sq (v := .int .i64 ((i : Nat) : Int)) rfl (r_move rfl (by kernel_rfl)) (by kernel_rfl) rfl rfl ?_
        obtain ⟨x42, hx43⟩ := get_of (zs := ps) (k := i) (by have := hl; omega)
        have hfx := findL_pos (List.mem_of_getElem? hx43)
        obtain ⟨b44, o45, hA46, hb47, hc48, hc49, hc50, hc51⟩ := Rd.elPipe ha hx43
        refine W.sq (v := .pointer (some ⟨b44, o45 + i * 4, none⟩)) rfl (r_idx (n := n) (c := c) (k := i) rfl (by kernel_rfl) hA46 (by kernel_rfl) (by kernel_rfl) (by have := hl; omega)) (by kernel_rfl) rfl rfl ?_
        refine W.sq (v := .pointer (some ⟨b44, o45 + i * 4, none⟩)) rfl (r_field0 rfl (by kernel_rfl) (by kernel_rfl)) (by kernel_rfl) rfl rfl ?_
        refine W.sq (v := .int .i64 x42.id) rfl (r_load rfl (by kernel_rfl) (by kernel_rfl) (sgS (later c35 hc48) (by simp))) (by kernel_rfl) rfl rfl ?_
        refine W.sq (v := .slice A2 n2 c2) rfl (r_move rfl (by kernel_rfl)) (by kernel_rfl) rfl rfl ?_
        have lr60 := World.ownsRow.lt ho41
        refine W.sc (vs := [.slice A2 n2 c2]) rfl rfl (by kernel_rfl) (by kernel_rfl) (by kernel_rfl) rfl (l5Open_any A2 n2 c2 vs _ (Rd.kept hb (SG.belowR c35 s40 (fun kq e => by cases e))) (by omega)) ?_
        rintro e w62 ⟨A52, n53, c54, rfl, ho55, b61⟩
        have s63 := SG.of_below s40 b61
        refine ⟨_, rfl, s63, ?_⟩
        have ho64 := own_kept ho41 b61
        have rd56 := own_rd ho55
        have fm59 := own_fm ho55
        have hl57 := rd_ints_len rd56
        have sp65 := sp_freshB (g := b2) ho55 (Nat.lt_of_lt_of_le (blk_lt x6) (World.grownBy.size s40))
        have sp66 := sp_freshR (u := .slice A0_8 n0_8 c0_8) ho55 (fun j e2 => (lr60 j e2).2)
        have := openIds_len vs
        refine W.sc (vs := [.agg #[.int .i64 m, .slice A n c], .slice A2 n2 c2, .int .i64 s, .int .i64 x42.id, .slice A52 n53 c54]) rfl rfl (by kernel_rfl) (by kernel_rfl) (by kernel_rfl) rfl (l5Cut_any m A n c ps A2 n2 c2 vs s x42.id A52 n53 c54 (openIds vs) _ (Rd.kept ha (SG.belowR c35 s63 (fun kq e => by cases e))) (Rd.kept hb (SG.belowR c35 s63 (fun kq e => by cases e))) (by omega) (by omega) hfm2 hv9 hs9 hfx rd56 (by omega)) ?_
        rintro e w68 ⟨rfl, b67⟩
        have s69 := SG.of_below s63 b67
        refine ⟨_, rfl, s69, ?_⟩
        have ho70 := own_kept ho64 b67
        have rd71 := Rd.kept rd56 b67
        rcases Bool.eq_false_or_eq_true (cutB ps vs s x42.id (openIds vs)) with q72 | q72
        · rw [q72]
          refine W.sq (v := .bool false) rfl (r_not (b := true) rfl (by kernel_rfl) rfl) (by kernel_rfl) rfl rfl ?_
          refine W.sch_endU (fun U73 => [.agg #[.int .i64 m, .slice A n c], .slice A2 n2 c2, .int .i64 s, .pointer (some ⟨b2, 0, none⟩), undef, undef, .slice none 0 0, .bool false, .slice A0_8 n0_8 c0_8, .int .i64 ((i : Nat) : Int), (U19 10), (U31 11), (U31 12), (U31 13), (U31 14), (U31 15), (U31 16), (U31 17), (U31 18), (U31 19), .bool false, undef, (U37 22), (U37 23), (U37 24), (U37 25), .bool true, (U0 27), (U0 28), U73 29, U73 30, U73 31, U73 32, U73 33, U73 34, U73 35, U73 36, U73 37, U73 38, U73 39, U73 40, .bool false, (U0 42), (U0 43), (U0 44), (U0 45), (U0 46), (U0 47), (U0 48), (U0 49), (U0 50), undef]) (by kernel_rfl) (fun U73 => ?_)
          have x6 := SG.blk s69 x6 (by simp)
          have c74 := (SG.belowR c35 s69 (fun kq e => by cases e))
          refine h11 _ _ ?_
          refine wp_cond_false (by kernel_rfl) ?_
          refine wp_skip ?_
          refine h10 _ _ ?_
          refine W.region_quiet [(0, false), (1, false), (2, false)] (by kernel_rfl) ?_
          refine W.sq (v := .int .i64 ((i : Nat) : Int)) rfl (r_move rfl (by kernel_rfl)) (by kernel_rfl) rfl rfl ?_
          refine W.sq (v := .int .i64 ((i + 1 : Nat) : Int)) rfl (r_add (m := ((i : Nat) : Int)) (n := 1) (z := ((i + 1 : Nat) : Int)) rfl (by kernel_rfl) (by kernel_rfl) (by omega) (by omega)) (by kernel_rfl) rfl rfl ?_
          refine W.sq (v := .int .i64 ((i + 1 : Nat) : Int)) rfl (r_assign rfl (by kernel_rfl)) (by kernel_rfl) rfl rfl ?_
          refine W.sch_endU (fun U75 => [.agg #[.int .i64 m, .slice A n c], .slice A2 n2 c2, .int .i64 s, .pointer (some ⟨b2, 0, none⟩), undef, undef, .slice none 0 0, .bool false, .slice A0_8 n0_8 c0_8, .int .i64 ((i + 1 : Nat) : Int), (U19 10), (U31 11), (U31 12), (U31 13), (U31 14), (U31 15), (U31 16), (U31 17), (U31 18), (U31 19), .bool false, undef, (U37 22), (U37 23), (U37 24), (U37 25), .bool true, U75 27, U75 28, (U73 29), (U73 30), (U73 31), (U73 32), (U73 33), (U73 34), (U73 35), (U73 36), (U73 37), (U73 38), (U73 39), (U73 40), .bool false, (U0 42), (U0 43), (U0 44), (U0 45), (U0 46), (U0 47), (U0 48), (U0 49), (U0 50), undef]) (by kernel_rfl) (fun U75 => ?_)
          exact h7 _ _ _ (by omega : (n - (i + 1)) < _) ⟨i + 1, A0_8, n0_8, c0_8, (fun iU9 => [.agg #[.int .i64 m, .slice A n c], .slice A2 n2 c2, .int .i64 s, .pointer (some ⟨b2, 0, none⟩), undef, undef, .slice none 0 0, .bool false, .slice A0_8 n0_8 c0_8, .int .i64 ((i + 1 : Nat) : Int), (U19 10), (U31 11), (U31 12), (U31 13), (U31 14), (U31 15), (U31 16), (U31 17), (U31 18), (U31 19), .bool false, undef, (U37 22), (U37 23), (U37 24), (U37 25), .bool true, (U75 27), (U75 28), (U73 29), (U73 30), (U73 31), (U73 32), (U73 33), (U73 34), (U73 35), (U73 36), (U73 37), (U73 38), (U73 39), (U73 40), .bool false, (U0 42), (U0 43), (U0 44), (U0 45), (U0 46), (U0 47), (U0 48), (U0 49), (U0 50), undef].getD iU9 undef), (by kernel_rfl), rfl, (by omega), (by omega), x6, (by rw [hopeL_no hx43 q72]; exact ho70), nb0_8_b2, c74⟩
        · rw [q72]
          refine W.sq (v := .bool true) rfl (r_not (b := false) rfl (by kernel_rfl) rfl) (by kernel_rfl) rfl rfl ?_
          refine W.sch_endU (fun U76 => [.agg #[.int .i64 m, .slice A n c], .slice A2 n2 c2, .int .i64 s, .pointer (some ⟨b2, 0, none⟩), undef, undef, .slice none 0 0, .bool false, .slice A0_8 n0_8 c0_8, .int .i64 ((i : Nat) : Int), (U19 10), (U31 11), (U31 12), (U31 13), (U31 14), (U31 15), (U31 16), (U31 17), (U31 18), (U31 19), .bool false, undef, (U37 22), (U37 23), (U37 24), (U37 25), .bool true, (U0 27), (U0 28), U76 29, U76 30, U76 31, U76 32, U76 33, U76 34, U76 35, U76 36, U76 37, U76 38, U76 39, U76 40, .bool true, (U0 42), (U0 43), (U0 44), (U0 45), (U0 46), (U0 47), (U0 48), (U0 49), (U0 50), undef]) (by kernel_rfl) (fun U76 => ?_)
          have x6 := SG.blk s69 x6 (by simp)
          have c77 := (SG.belowR c35 s69 (fun kq e => by cases e))
          refine h11 _ _ ?_
          refine wp_cond_true (by kernel_rfl) ?_
          refine W.region_plain (row := (Value.ownBlock (.slice A0_8 n0_8 c0_8))) [(0, false), (1, false), (2, false), (3, false), (4, false), (5, false), (6, false), (7, true), (8, true), (9, false)] (by kernel_rfl) ?_
          have s78 := SG.self w68 (Value.ownBlock (.slice A0_8 n0_8 c0_8))
          refine W.sq (v := .slice A0_8 n0_8 c0_8) rfl (r_move rfl (by kernel_rfl)) (by kernel_rfl) rfl rfl ?_
          refine W.sq (v := .pointer (some ⟨b2, 1, none⟩)) rfl (r_field (k := 1) rfl (by kernel_rfl) (by kernel_rfl)) (by kernel_rfl) rfl rfl ?_
          refine W.sq (v := .slice A n c) rfl (r_load rfl (by kernel_rfl) (by kernel_rfl) (sgS (blk_cell (j := 1) x6 (by kernel_rfl)) nb0_8_b2)) (by kernel_rfl) rfl rfl ?_
          refine W.sq (v := .int .i64 ((i : Nat) : Int)) rfl (r_move rfl (by kernel_rfl)) (by kernel_rfl) rfl rfl ?_
          refine W.sq (v := .pointer (some ⟨b44, o45 + i * 4, none⟩)) rfl (r_idx (n := n) (c := c) (k := i) rfl (by kernel_rfl) hA46 (by kernel_rfl) (by kernel_rfl) (by have := hl; omega)) (by kernel_rfl) rfl rfl ?_
          refine W.sq (v := .pointer (some ⟨b44, o45 + i * 4, none⟩)) rfl (r_field0 rfl (by kernel_rfl) (by kernel_rfl)) (by kernel_rfl) rfl rfl ?_
          refine W.sq (v := .int .i64 x42.id) rfl (r_load rfl (by kernel_rfl) (by kernel_rfl) (sgS (later c77 hc48) (nb_lo ho70 hb47))) (by kernel_rfl) rfl rfl ?_
          refine W.sn (fun b => .slice (some ⟨b, 0, none⟩) 1 1) #[.int .i64 x42.id] 3 s78 rfl (by kernel_rfl) rfl (fun _ => by kernel_rfl) (fun b79 w80 hb81 k82 x83 s84 => ?_)
          have lo85 : w.heap.size ≤ b79 := by have := ((SG.belowR c77 s78 (fun kq e => (World.ownsRow.lt ho70 kq e).1))).size; omega
          have ne86 : b2 ≠ b79 := by have := blk_lt x6; have := World.grownBy.size s78; omega
          have nb87 : Nb b79 (.slice A0_8 n0_8 c0_8) := nb_hi ho70 (Nat.le_of_eq hb81)
          have ho88 := own_kept ho70 k82
          refine W.sap (e := 3) (size := 1) (base := w.heap.size) (m := 1) (v := .slice A0_8 n0_8 c0_8) (c := 1) s84 rfl rfl rfl rfl (by kernel_rfl) (by kernel_rfl) (by kernel_rfl) ho88 x83 (by kernel_rfl) (by kernel_rfl) (by omega) (by omega) (by have := ((SG.belowR c77 s84 (fun kq e => (World.ownsRow.lt ho70 kq e).1))).size; omega) (.inl rfl) (fun g89 cap90 w91 ho92 hg93 hat94 hlt95 s96 => ?_)
          have nb97 : Nb b2 (.slice (some ⟨g89, 0, none⟩) (n0_8 + 1) cap90) := nb_app nb0_8_b2 (Nat.lt_of_lt_of_le (blk_lt x6) (World.grownBy.size s84)) hat94
          have nb98 : Nb b79 (.slice (some ⟨g89, 0, none⟩) (n0_8 + 1) cap90) := nb_app nb87 (blk_lt x83) hat94
          have x83 := (hg93.block _ (blk_lt x83) nb87).trans x83
          have ho92 := own_snoc ho92
          have sp99 := sp_app (v' := .slice (some ⟨g89, 0, none⟩) (n0_8 + 1) cap90) sp66 rd71 (World.grownBy.size s84) (hat3 (v := .slice A0_8 n0_8 c0_8) hat94)
          refine W.sq (v := .slice (some ⟨g89, 0, none⟩) (n0_8 + 1) cap90) rfl (r_assign rfl (by kernel_rfl)) (by kernel_rfl) rfl rfl ?_
          refine W.sch_endU (fun U100 => [.agg #[.int .i64 m, .slice A n c], .slice A2 n2 c2, .int .i64 s, .pointer (some ⟨b2, 0, none⟩), undef, undef, .slice none 0 0, .bool false, .slice (some ⟨g89, 0, none⟩) (n0_8 + 1) cap90, .int .i64 ((i : Nat) : Int), (U19 10), (U31 11), (U31 12), (U31 13), (U31 14), (U31 15), (U31 16), (U31 17), (U31 18), (U31 19), .bool false, undef, (U37 22), (U37 23), (U37 24), (U37 25), .bool true, (U0 27), (U0 28), (U76 29), (U76 30), (U76 31), (U76 32), (U76 33), (U76 34), (U76 35), (U76 36), (U76 37), (U76 38), (U76 39), (U76 40), .bool true, U100 42, U100 43, U100 44, U100 45, U100 46, U100 47, U100 48, U100 49, U100 50, undef]) (by kernel_rfl) (fun U100 => ?_)
          have x6 := SG.blk s96 x6 nb0_8_b2
          have c101 := (SG.belowR c77 s96 (fun kq e => (World.ownsRow.lt ho70 kq e).1))
          have rd102 := rd_sep rd71 s96 sp66
          refine h10 _ _ ?_
          refine W.region_quiet [(0, false), (1, false), (2, false)] (by kernel_rfl) ?_
          refine W.sq (v := .int .i64 ((i : Nat) : Int)) rfl (r_move rfl (by kernel_rfl)) (by kernel_rfl) rfl rfl ?_
          refine W.sq (v := .int .i64 ((i + 1 : Nat) : Int)) rfl (r_add (m := ((i : Nat) : Int)) (n := 1) (z := ((i + 1 : Nat) : Int)) rfl (by kernel_rfl) (by kernel_rfl) (by omega) (by omega)) (by kernel_rfl) rfl rfl ?_
          refine W.sq (v := .int .i64 ((i + 1 : Nat) : Int)) rfl (r_assign rfl (by kernel_rfl)) (by kernel_rfl) rfl rfl ?_
          refine W.sch_endU (fun U103 => [.agg #[.int .i64 m, .slice A n c], .slice A2 n2 c2, .int .i64 s, .pointer (some ⟨b2, 0, none⟩), undef, undef, .slice none 0 0, .bool false, .slice (some ⟨g89, 0, none⟩) (n0_8 + 1) cap90, .int .i64 ((i + 1 : Nat) : Int), (U19 10), (U31 11), (U31 12), (U31 13), (U31 14), (U31 15), (U31 16), (U31 17), (U31 18), (U31 19), .bool false, undef, (U37 22), (U37 23), (U37 24), (U37 25), .bool true, U103 27, U103 28, (U76 29), (U76 30), (U76 31), (U76 32), (U76 33), (U76 34), (U76 35), (U76 36), (U76 37), (U76 38), (U76 39), (U76 40), .bool true, (U100 42), (U100 43), (U100 44), (U100 45), (U100 46), (U100 47), (U100 48), (U100 49), (U100 50), undef]) (by kernel_rfl) (fun U103 => ?_)
          exact h7 _ _ _ (by omega : (n - (i + 1)) < _) ⟨i + 1, (some ⟨g89, 0, none⟩), (n0_8 + 1), cap90, (fun iU9 => [.agg #[.int .i64 m, .slice A n c], .slice A2 n2 c2, .int .i64 s, .pointer (some ⟨b2, 0, none⟩), undef, undef, .slice none 0 0, .bool false, .slice (some ⟨g89, 0, none⟩) (n0_8 + 1) cap90, .int .i64 ((i + 1 : Nat) : Int), (U19 10), (U31 11), (U31 12), (U31 13), (U31 14), (U31 15), (U31 16), (U31 17), (U31 18), (U31 19), .bool false, undef, (U37 22), (U37 23), (U37 24), (U37 25), .bool true, (U103 27), (U103 28), (U76 29), (U76 30), (U76 31), (U76 32), (U76 33), (U76 34), (U76 35), (U76 36), (U76 37), (U76 38), (U76 39), (U76 40), .bool true, (U100 42), (U100 43), (U100 44), (U100 45), (U100 46), (U100 47), (U100 48), (U100 49), (U100 50), undef].getD iU9 undef), (by kernel_rfl), rfl, (by omega), (by omega), x6, (by rw [hopeL_yes hx43 q72]; exact ho92), nb97, c101⟩
      · refine W.sq (v := .bool false) rfl (r_lss (m := ((i : Nat) : Int)) (n := ((n : Nat) : Int)) rfl (by kernel_rfl) (by kernel_rfl) (decide_eq_false q36)) (by kernel_rfl) rfl rfl ?_
        refine W.sch_endU (fun U104 => [.agg #[.int .i64 m, .slice A n c], .slice A2 n2 c2, .int .i64 s, .pointer (some ⟨b2, 0, none⟩), undef, undef, .slice none 0 0, .bool false, .slice A0_8 n0_8 c0_8, .int .i64 ((i : Nat) : Int), (U19 10), (U31 11), (U31 12), (U31 13), (U31 14), (U31 15), (U31 16), (U31 17), (U31 18), (U31 19), .bool false, undef, U104 22, U104 23, U104 24, U104 25, .bool false, (U0 27), (U0 28), (U0 29), (U0 30), (U0 31), (U0 32), (U0 33), (U0 34), (U0 35), (U0 36), (U0 37), (U0 38), (U0 39), (U0 40), (U0 41), (U0 42), (U0 43), (U0 44), (U0 45), (U0 46), (U0 47), (U0 48), (U0 49), (U0 50), undef]) (by kernel_rfl) (fun U104 => ?_)
        refine h9 _ _ ?_
        refine wp_cond_false (by kernel_rfl) ?_
        refine wp_exit ?_
        refine h5 _ _ ?_
        refine wp_seq_k (fun K12 h12 => ?_)
        refine W.region_quiet [(0, false), (1, false), (2, false)] (by kernel_rfl) ?_
        refine W.sq (v := .slice A0_8 n0_8 c0_8) rfl (r_move rfl (by kernel_rfl)) (by kernel_rfl) rfl rfl ?_
        refine W.sq (v := .slice A0_8 n0_8 c0_8) rfl (r_assign rfl (by kernel_rfl)) (by kernel_rfl) rfl rfl ?_
        refine W.sq (v := .bool true) rfl (r_assign rfl (by kernel_rfl)) (by kernel_rfl) rfl rfl ?_
        refine W.sch_endU (fun U105 => [.agg #[.int .i64 m, .slice A n c], .slice A2 n2 c2, .int .i64 s, .pointer (some ⟨b2, 0, none⟩), undef, undef, .slice A0_8 n0_8 c0_8, .bool true, .slice A0_8 n0_8 c0_8, .int .i64 ((i : Nat) : Int), (U19 10), (U31 11), (U31 12), (U31 13), (U31 14), (U31 15), (U31 16), (U31 17), (U31 18), (U31 19), .bool false, undef, (U104 22), (U104 23), (U104 24), (U104 25), .bool false, (U0 27), (U0 28), (U0 29), (U0 30), (U0 31), (U0 32), (U0 33), (U0 34), (U0 35), (U0 36), (U0 37), (U0 38), (U0 39), (U0 40), (U0 41), (U0 42), (U0 43), (U0 44), (U0 45), (U0 46), (U0 47), (U0 48), (U0 49), (U0 50), U105 51]) (by kernel_rfl) (fun U105 => ?_)
        refine h12 _ _ ?_
        refine wp_ret ?_
        try simp only [Exit.then]
        refine ret2 (v := .slice A0_8 n0_8 c0_8) (x := .bool true) rfl (by kernel_rfl) (by kernel_rfl) ?_
        have e8 : HopelessPipes_v1 m ps vs s = true := by unfold HopelessPipes_v1; rw [q25, q30]; rfl
        exact fin_rd  (own_rd ho0_8) (by unfold HopelessPipes_v0; rw [if_pos e8, List.take_of_length_le (by omega)]) e8.symm c35
    · rw [q29]
      have q106 : inB s 1 m = false := by have h9 := q29; rw [hv9.good, Bool.true_and] at h9; exact h9
      refine W.sq (v := .bool true) rfl (r_not (b := false) rfl (by kernel_rfl) rfl) (by kernel_rfl) rfl rfl ?_
      refine W.sq (v := .bool true) rfl (r_pick (b := false) rfl (by kernel_rfl) (by kernel_rfl)) (by kernel_rfl) rfl rfl ?_
      refine W.sch_endU (fun U107 => [.agg #[.int .i64 m, .slice A n c], .slice A2 n2 c2, .int .i64 s, .pointer (some ⟨b2, 0, none⟩), undef, undef, .slice none 0 0, .bool false, .slice (some ⟨b11, 0, none⟩) 0 0, undef, (U19 10), U107 11, U107 12, U107 13, U107 14, U107 15, U107 16, U107 17, U107 18, U107 19, .bool true, undef, undef, undef, undef, undef, undef, undef, undef, undef, undef, undef, undef, undef, undef, undef, undef, undef, undef, undef, undef, undef, undef, undef, undef, undef, undef, undef, undef, undef, undef, undef]) (by kernel_rfl) (fun U107 => ?_)
      have x6 := SG.blk s28 x6 (by simp)
      have x15 := SG.blk s28 x15 (by simp)
      have c108 := (SG.belowR c20 s28 (fun kq e => by cases e))
      refine h4 _ _ ?_
      refine wp_cond_true (by kernel_rfl) ?_
      refine wp_seq_k (fun K13 h13 => ?_)
      refine W.region_quiet [(0, false), (1, false), (2, false)] (by kernel_rfl) ?_
      refine W.sq (v := .slice (some ⟨b11, 0, none⟩) 0 0) rfl (r_move rfl (by kernel_rfl)) (by kernel_rfl) rfl rfl ?_
      refine W.sq (v := .slice (some ⟨b11, 0, none⟩) 0 0) rfl (r_assign rfl (by kernel_rfl)) (by kernel_rfl) rfl rfl ?_
      refine W.sq (v := .bool false) rfl (r_assign rfl (by kernel_rfl)) (by kernel_rfl) rfl rfl ?_
      refine W.sch_endU (fun U109 => [.agg #[.int .i64 m, .slice A n c], .slice A2 n2 c2, .int .i64 s, .pointer (some ⟨b2, 0, none⟩), undef, undef, .slice (some ⟨b11, 0, none⟩) 0 0, .bool false, .slice (some ⟨b11, 0, none⟩) 0 0, undef, (U19 10), (U107 11), (U107 12), (U107 13), (U107 14), (U107 15), (U107 16), (U107 17), (U107 18), (U107 19), .bool true, U109 21, undef, undef, undef, undef, undef, undef, undef, undef, undef, undef, undef, undef, undef, undef, undef, undef, undef, undef, undef, undef, undef, undef, undef, undef, undef, undef, undef, undef, undef, undef]) (by kernel_rfl) (fun U109 => ?_)
      refine h13 _ _ ?_
      refine wp_ret ?_
      try simp only [Exit.then]
      refine ret2 (v := .slice (some ⟨b11, 0, none⟩) 0 0) (x := .bool false) rfl (by kernel_rfl) (by kernel_rfl) ?_
      have e8 : HopelessPipes_v1 m ps vs s = false := by unfold HopelessPipes_v1; rw [q106, Bool.and_false]
      have ho110 := own_empty (base := w.heap.size) (size := 1) x15 lo17
      replace ho110 : World.ownsRow _ _ _ _ _ _ (intsV []) := ho110
      have nb111 : Nb b2 (.slice (some ⟨b11, 0, none⟩) 0 0) := nb_new (by have := ne18; omega)
      exact fin_rd (zs := []) (own_rd ho110) (by unfold HopelessPipes_v0; rw [if_neg (by rw [e8]; simp)]) e8.symm c108
  · rw [q25]
    refine W.sq (v := .bool true) rfl (r_not (b := false) rfl (by kernel_rfl) rfl) (by kernel_rfl) rfl rfl ?_
    refine W.sq (v := .bool true) rfl (r_move rfl (by kernel_rfl)) (by kernel_rfl) rfl rfl ?_
    refine W.sk s24 rfl (by kernel_rfl) rfl rfl ?_
    refine W.sk s24 rfl (by kernel_rfl) rfl rfl ?_
    refine W.sk s24 rfl (by kernel_rfl) rfl rfl ?_
    refine W.sk s24 rfl (by kernel_rfl) rfl rfl ?_
    refine W.sq (v := .bool true) rfl (r_pick (b := true) rfl (by kernel_rfl) (by kernel_rfl)) (by kernel_rfl) rfl rfl ?_
    refine W.sch_endU (fun U112 => [.agg #[.int .i64 m, .slice A n c], .slice A2 n2 c2, .int .i64 s, .pointer (some ⟨b2, 0, none⟩), undef, undef, .slice none 0 0, .bool false, .slice (some ⟨b11, 0, none⟩) 0 0, undef, (U19 10), U112 11, U112 12, U112 13, U112 14, U112 15, undef, undef, undef, undef, .bool true, undef, undef, undef, undef, undef, undef, undef, undef, undef, undef, undef, undef, undef, undef, undef, undef, undef, undef, undef, undef, undef, undef, undef, undef, undef, undef, undef, undef, undef, undef, undef]) (by kernel_rfl) (fun U112 => ?_)
    have x6 := SG.blk s24 x6 (by simp)
    have x15 := SG.blk s24 x15 (by simp)
    have c113 := (SG.belowR c20 s24 (fun kq e => by cases e))
    refine h4 _ _ ?_
    refine wp_cond_true (by kernel_rfl) ?_
    refine wp_seq_k (fun K14 h14 => ?_)
    refine W.region_quiet [(0, false), (1, false), (2, false)] (by kernel_rfl) ?_
    refine W.sq (v := .slice (some ⟨b11, 0, none⟩) 0 0) rfl (r_move rfl (by kernel_rfl)) (by kernel_rfl) rfl rfl ?_
    refine W.sq (v := .slice (some ⟨b11, 0, none⟩) 0 0) rfl (r_assign rfl (by kernel_rfl)) (by kernel_rfl) rfl rfl ?_
    refine W.sq (v := .bool false) rfl (r_assign rfl (by kernel_rfl)) (by kernel_rfl) rfl rfl ?_
    refine W.sch_endU (fun U114 => [.agg #[.int .i64 m, .slice A n c], .slice A2 n2 c2, .int .i64 s, .pointer (some ⟨b2, 0, none⟩), undef, undef, .slice (some ⟨b11, 0, none⟩) 0 0, .bool false, .slice (some ⟨b11, 0, none⟩) 0 0, undef, (U19 10), (U112 11), (U112 12), (U112 13), (U112 14), (U112 15), undef, undef, undef, undef, .bool true, U114 21, undef, undef, undef, undef, undef, undef, undef, undef, undef, undef, undef, undef, undef, undef, undef, undef, undef, undef, undef, undef, undef, undef, undef, undef, undef, undef, undef, undef, undef, undef]) (by kernel_rfl) (fun U114 => ?_)
    refine h14 _ _ ?_
    refine wp_ret ?_
    try simp only [Exit.then]
    refine ret2 (v := .slice (some ⟨b11, 0, none⟩) 0 0) (x := .bool false) rfl (by kernel_rfl) (by kernel_rfl) ?_
    have e8 : HopelessPipes_v1 m ps vs s = false := by unfold HopelessPipes_v1; rw [q25]; rfl
    have ho115 := own_empty (base := w.heap.size) (size := 1) x15 lo17
    replace ho115 : World.ownsRow _ _ _ _ _ _ (intsV []) := ho115
    have nb116 : Nb b2 (.slice (some ⟨b11, 0, none⟩) 0 0) := nb_new (by have := ne18; omega)
    exact fin_rd (zs := []) (own_rd ho115) (by unfold HopelessPipes_v0; rw [if_neg (by rw [e8]; simp)]) e8.symm c113

end Go.Proofs.Ytnfmdkbelbppdaa
