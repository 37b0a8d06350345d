/- What is connected with an element: the program's marks. -/
import Derived.Test.YtnfmdkbelbppdaaSeg
import Derived.Test.YtnfmdkbelbppdaaSch7
import Derived.Test.YtnfmdkbelbppdaaVal
namespace Go.Proofs.Ytnfmdkbelbppdaa
open Go.RowKit
set_option linter.unusedVariables false
set_option linter.unusedSimpArgs false

/-- A pipe's end is open: no valve (no shut one, if only those count) is there. -/
def openQ (vs : List Vv) (only : Bool) (p : Pp) (v : Int) : Bool := !blocked vs p.id v only
theorem two_of {a b y : Int} {k : Nat} (h : [a, b][k]? = some y) : (k = 0 ∧ y = a) ∨ (k = 1 ∧ y = b) := by
  rcases k with _ | _ | k
  · simp at h; exact .inl ⟨rfl, h.symm⟩
  · simp at h; exact .inr ⟨rfl, h.symm⟩
  · simp at h
theorem two_next {q : Pp → Int → Bool} {S : Int → Prop} {i k : Nat} {x : Pp} {y : Int} (hy : (k = 0 ∧ y = x.fr) ∨ (k = 1 ∧ y = x.to)) (h1 : 1 ≤ k → okP q S i x x.fr) (h : okP q S i x y) : (1 ≤ k + 1 → okP q S i x x.fr) ∧ (2 ≤ k + 1 → okP q S i x x.to) := by
  rcases hy with ⟨rfl, rfl⟩ | ⟨rfl, rfl⟩
  · exact ⟨fun _ => h, fun h' => absurd h' (by omega)⟩
  · exact ⟨fun _ => h1 (by omega), fun _ => h⟩
/-- No two valves are at one place. -/
def uniqV (vs : List Vv) : Prop := ∀ u v, u ∈ vs → v ∈ vs → u.pipe = v.pipe → u.node = v.node → u = v
abbrev atQ (p : Pp) (v : Int) : Vv → Bool := fun u => decide (u.pipe = p.id) && decide (u.node = v)
theorem idx_neg {vs : List Vv} {p : Pp} {v : Int} (only : Bool) (h : idxV (atQ p v) vs < 0) : openQ vs only p v = true := by
  have h2 : vs.any (atQ p v) = false := by rw [← idxV_pos]; exact decide_eq_false (by omega)
  unfold openQ blocked
  rw [Bool.not_eq_true', List.any_eq_false]
  intro u hu
  have := List.any_eq_false.1 h2 u hu
  simp only [Bool.and_eq_true, not_and] at this ⊢
  exact fun h => absurd h.2 (fun h' => this h.1 h')
theorem idx_some {vs : List Vv} {q : Vv → Bool} (h : ¬ idxV q vs < 0) : ∃ (k : Nat) (x : Vv), idxV q vs = (k : Int) ∧ vs[k]? = some x ∧ q x = true := by
  rcases idxV_cases q vs with ⟨h1, _⟩ | ⟨k, x, h1, h2, h3, _⟩
  · omega
  · exact ⟨k, x, h1, h2, h3⟩
theorem idx_yes {vs : List Vv} {p : Pp} {v : Int} (h : ¬ idxV (atQ p v) vs < 0) : openQ vs false p v = false := by
  obtain ⟨k, x, _, hx, hq⟩ := idx_some h
  unfold openQ blocked
  rw [Bool.not_eq_false', List.any_eq_true]
  exact ⟨x, List.mem_of_getElem? hx, by simpa using hq⟩
theorem idx_shut {vs : List Vv} {p : Pp} {v : Int} (hu : uniqV vs) {k : Nat} {x : Vv} (hx : vs[k]? = some x) (hq : atQ p v x = true) : openQ vs true p v = !x.shut := by
  unfold openQ blocked
  refine congrArg (!·) ?_
  have hq' : x.pipe = p.id ∧ x.node = v := by simpa using hq
  rw [Bool.eq_iff_iff, List.any_eq_true]
  constructor
  · rintro ⟨u, hm, h⟩
    have h' : (u.pipe = p.id ∧ u.node = v) ∧ u.shut = true := by simpa using h
    have e := hu u x hm (List.mem_of_getElem? hx) (by omega) (by omega)
    rw [← e]; exact h'.2
  · intro h; exact ⟨x, List.mem_of_getElem? hx, by simp [hq', h]⟩

set_option maxRecDepth 100000 in
set_option maxHeartbeats 1000000 in
theorem element_any (i : Int) (w : World) (h0 : -1 ≤ i ∧ i ≤ 1000) :
    Calls Try.prog 102 #[.int .i64 i] w fun e w' => e = .returned (.int .i64 (9 + i)) ∧ w = w' := by
  go_enter Try.func102, Try.ntmps102
  refine wp_seq_k (fun K1 h1 => ?_)
  refine W.region_quiet [(0, false)] (by kernel_rfl) ?_
  refine W.sq (v := .int .i64 0) rfl (r_assign rfl (by kernel_rfl)) (by kernel_rfl) rfl rfl ?_
  refine W.sch_end (l' := [.int .i64 i, undef, .int .i64 0, undef, undef]) (by kernel_rfl) ?_
  refine h1 _ _ ?_
  refine wp_seq_k (fun K2 h2 => ?_)
  refine W.region_quiet [(0, false), (1, false), (2, false)] (by kernel_rfl) ?_
  refine W.sq (v := .int .i64 i) rfl (r_move rfl (by kernel_rfl)) (by kernel_rfl) rfl rfl ?_
  refine W.sq (v := .int .i64 (9 + i)) rfl (r_add (m := 9) (n := i) (z := 9 + i) rfl (by kernel_rfl) (by kernel_rfl) (rfl) (by omega)) (by kernel_rfl) rfl rfl ?_
  refine W.sq (v := .int .i64 (9 + i)) rfl (r_assign rfl (by kernel_rfl)) (by kernel_rfl) rfl rfl ?_
  refine W.sch_endU (fun U1 => [.int .i64 i, undef, .int .i64 (9 + i), U1 3, U1 4]) (by kernel_rfl) (fun U1 => ?_)
  refine h2 _ _ ?_
  refine wp_ret ?_
  try simp only [Exit.then]
  refine ret1 (v := .int .i64 (9 + i)) rfl (by kernel_rfl) ?_
  exact ⟨rfl, rfl⟩

theorem elementN_any (i : Nat) (w : World) (h0 : i ≤ 1000) : Calls Try.prog 102 #[.int .i64 ((i : Nat) : Int)] w fun e w' => e = .returned (.int .i64 ((9 + i : Nat) : Int)) ∧ w = w' := by
  refine (element_any (i : Int) w (by omega)).mono ?_
  rintro e w' ⟨rfl, rfl⟩
  exact ⟨by rw [show ((9 + i : Nat) : Int) = 9 + (i : Int) by omega], rfl⟩

set_option maxRecDepth 100000 in
set_option maxHeartbeats 1000000 in
theorem segF_any (p : Pp) (v : Int) (B : Nat) (A2 : Option Addr) (n2 c2 : Nat) (vs : List Vv) (w : World) (hB : w.heap[B]? = some (.cells #[.slice A2 n2 c2] 34 (0, 0))) (hb : Rd w 4 A2 n2 (valvesV vs)) (hn2 : n2 ≤ 1048576) :
    Calls Try.prog 137 #[.agg #[.int .i64 p.id, .int .i64 p.fr, .int .i64 p.to, .int .i64 p.sz], .int .i64 v, .pointer (some ⟨B, 0, none⟩)] w fun e w' => e = .returned (.bool (openQ vs false p v)) ∧ Below w.heap.size w w' := by
  have hl2 := rd_valves_len hb
  go_enter Try.func137, Try.ntmps137
  refine wp_seq_k (fun K1 h1 => ?_)
  refine W.region_plain (row := none) [(0, true), (1, false)] (by kernel_rfl) ?_
  have s1 := SG.self w none
  refine W.sn (fun b => .pointer (some ⟨b, 0, none⟩)) #[.int .i64 p.id, .int .i64 p.fr, .int .i64 p.to, .int .i64 p.sz] 72 s1 rfl (by kernel_rfl) rfl (fun _ => by kernel_rfl) (fun b2 w3 hb4 k5 x6 s7 => ?_)
  have lo8 : w.heap.size ≤ b2 := by have := ((SG.belowR (Below.refl _ _) s1 (fun kq e => by cases e))).size; omega
  have ne9 : B ≠ b2 := by have := blk_lt hB; have := World.grownBy.size s1; omega
  refine W.sq (v := .bool false) rfl (r_assign rfl (by kernel_rfl)) (by kernel_rfl) rfl rfl ?_
  refine W.sch_end (l' := [.agg #[.int .i64 p.id, .int .i64 p.fr, .int .i64 p.to, .int .i64 p.sz], .int .i64 v, .pointer (some ⟨B, 0, none⟩), .pointer (some ⟨b2, 0, none⟩), undef, .bool false, undef, undef, undef, undef, undef]) (by kernel_rfl) ?_
  have hB := SG.blk s7 hB (by simp)
  have c10 := (SG.belowR (Below.refl _ _) s7 (fun kq e => by cases e))
  refine h1 _ _ ?_
  refine wp_seq_k (fun K2 h2 => ?_)
  refine W.region_plain (row := none) [(0, false), (1, false), (2, false), (3, true), (4, false), (5, false)] (by kernel_rfl) ?_
  have s11 := SG.self w3 none
  refine W.sq (v := .slice A2 n2 c2) rfl (r_load rfl (by kernel_rfl) (by kernel_rfl) (sgS (blk_cell (j := 0) hB (by kernel_rfl)) (by simp))) (by kernel_rfl) rfl rfl ?_
  refine W.sq (v := .agg #[.int .i64 p.id, .int .i64 p.fr, .int .i64 p.to, .int .i64 p.sz]) rfl (r_load4 rfl (by kernel_rfl) (by kernel_rfl) (by kernel_rfl) (sgS (blk_cell (j := 0) x6 (by kernel_rfl)) (by simp)) (sgS (blk_cell (j := 1) x6 (by kernel_rfl)) (by simp)) (sgS (blk_cell (j := 2) x6 (by kernel_rfl)) (by simp)) (sgS (blk_cell (j := 3) x6 (by kernel_rfl)) (by simp))) (by kernel_rfl) rfl rfl ?_
  refine W.sq (v := .int .i64 v) rfl (r_move rfl (by kernel_rfl)) (by kernel_rfl) rfl rfl ?_
  refine W.sc (vs := [.slice A2 n2 c2, .agg #[.int .i64 p.id, .int .i64 p.fr, .int .i64 p.to, .int .i64 p.sz], .int .i64 v]) rfl rfl (by kernel_rfl) (by kernel_rfl) (by kernel_rfl) rfl (valveAt_any A2 n2 c2 vs p v _ (Rd.kept hb (SG.belowR c10 s11 (fun kq e => by cases e))) (by omega)) ?_
  rintro e w13 ⟨rfl, b12⟩
  have s14 := SG.of_below s11 b12
  refine ⟨_, rfl, s14, ?_⟩
  by_cases q15 : (idxV (atQ p v) vs : Int) < (0 : Int)
  · refine W.sq (v := .bool true) rfl (r_lss (m := idxV (atQ p v) vs) (n := 0) rfl (by kernel_rfl) (by kernel_rfl) (decide_eq_true q15)) (by kernel_rfl) rfl rfl ?_
    refine W.sq (v := .bool true) rfl (r_assign rfl (by kernel_rfl)) (by kernel_rfl) rfl rfl ?_
    refine W.sch_endU (fun U16 => [.agg #[.int .i64 p.id, .int .i64 p.fr, .int .i64 p.to, .int .i64 p.sz], .int .i64 v, .pointer (some ⟨B, 0, none⟩), .pointer (some ⟨b2, 0, none⟩), undef, .bool true, U16 6, U16 7, U16 8, U16 9, U16 10]) (by kernel_rfl) (fun U16 => ?_)
    have hB := SG.blk s14 hB (by simp)
    have x6 := SG.blk s14 x6 (by simp)
    have c17 := (SG.belowR c10 s14 (fun kq e => by cases e))
    refine h2 _ _ ?_
    refine wp_ret ?_
    try simp only [Exit.then]
    refine ret1 (v := .bool true) rfl (by kernel_rfl) ?_
    exact ⟨ret_bool (idx_neg false q15).symm, c17⟩
  · refine W.sq (v := .bool false) rfl (r_lss (m := idxV (atQ p v) vs) (n := 0) rfl (by kernel_rfl) (by kernel_rfl) (decide_eq_false q15)) (by kernel_rfl) rfl rfl ?_
    refine W.sq (v := .bool false) rfl (r_assign rfl (by kernel_rfl)) (by kernel_rfl) rfl rfl ?_
    refine W.sch_endU (fun U18 => [.agg #[.int .i64 p.id, .int .i64 p.fr, .int .i64 p.to, .int .i64 p.sz], .int .i64 v, .pointer (some ⟨B, 0, none⟩), .pointer (some ⟨b2, 0, none⟩), undef, .bool false, U18 6, U18 7, U18 8, U18 9, U18 10]) (by kernel_rfl) (fun U18 => ?_)
    have hB := SG.blk s14 hB (by simp)
    have x6 := SG.blk s14 x6 (by simp)
    have c19 := (SG.belowR c10 s14 (fun kq e => by cases e))
    refine h2 _ _ ?_
    refine wp_ret ?_
    try simp only [Exit.then]
    refine ret1 (v := .bool false) rfl (by kernel_rfl) ?_
    exact ⟨ret_bool (idx_yes q15).symm, c19⟩

set_option maxRecDepth 100000 in
set_option maxHeartbeats 1000000 in
theorem watF_any (p : Pp) (v : Int) (B : Nat) (A2 : Option Addr) (n2 c2 : Nat) (vs : List Vv) (w : World) (hB : w.heap[B]? = some (.cells #[.slice A2 n2 c2] 34 (0, 0))) (hb : Rd w 4 A2 n2 (valvesV vs)) (hn2 : n2 ≤ 1048576) (hu : uniqV vs) :
    Calls Try.prog 129 #[.agg #[.int .i64 p.id, .int .i64 p.fr, .int .i64 p.to, .int .i64 p.sz], .int .i64 v, .pointer (some ⟨B, 0, none⟩)] w fun e w' => e = .returned (.bool (openQ vs true p v)) ∧ Below w.heap.size w w' := by
  have hl2 := rd_valves_len hb
  go_enter Try.func129, Try.ntmps129
  refine wp_seq_k (fun K1 h1 => ?_)
  refine W.region_plain (row := none) [(0, true), (1, false)] (by kernel_rfl) ?_
  have s1 := SG.self w none
  refine W.sn (fun b => .pointer (some ⟨b, 0, none⟩)) #[.int .i64 p.id, .int .i64 p.fr, .int .i64 p.to, .int .i64 p.sz] 72 s1 rfl (by kernel_rfl) rfl (fun _ => by kernel_rfl) (fun b2 w3 hb4 k5 x6 s7 => ?_)
  have lo8 : w.heap.size ≤ b2 := by have := ((SG.belowR (Below.refl _ _) s1 (fun kq e => by cases e))).size; omega
  have ne9 : B ≠ b2 := by have := blk_lt hB; have := World.grownBy.size s1; omega
  refine W.sq (v := .bool false) rfl (r_assign rfl (by kernel_rfl)) (by kernel_rfl) rfl rfl ?_
  refine W.sch_end (l' := [.agg #[.int .i64 p.id, .int .i64 p.fr, .int .i64 p.to, .int .i64 p.sz], .int .i64 v, .pointer (some ⟨B, 0, none⟩), .pointer (some ⟨b2, 0, none⟩), undef, .bool false, undef, undef, undef, undef, undef, undef, undef, undef, undef, undef, undef, undef, undef, undef, undef]) (by kernel_rfl) ?_
  have hB := SG.blk s7 hB (by simp)
  have c10 := (SG.belowR (Below.refl _ _) s7 (fun kq e => by cases e))
  refine h1 _ _ ?_
  refine wp_seq_k (fun K2 h2 => ?_)
  refine W.region_plain (row := none) [(0, false), (1, false), (2, false), (3, true), (4, false)] (by kernel_rfl) ?_
  have s11 := SG.self w3 none
  refine W.sq (v := .slice A2 n2 c2) rfl (r_load rfl (by kernel_rfl) (by kernel_rfl) (sgS (blk_cell (j := 0) hB (by kernel_rfl)) (by simp))) (by kernel_rfl) rfl rfl ?_
  refine W.sq (v := .agg #[.int .i64 p.id, .int .i64 p.fr, .int .i64 p.to, .int .i64 p.sz]) rfl (r_load4 rfl (by kernel_rfl) (by kernel_rfl) (by kernel_rfl) (sgS (blk_cell (j := 0) x6 (by kernel_rfl)) (by simp)) (sgS (blk_cell (j := 1) x6 (by kernel_rfl)) (by simp)) (sgS (blk_cell (j := 2) x6 (by kernel_rfl)) (by simp)) (sgS (blk_cell (j := 3) x6 (by kernel_rfl)) (by simp))) (by kernel_rfl) rfl rfl ?_
  refine W.sq (v := .int .i64 v) rfl (r_move rfl (by kernel_rfl)) (by kernel_rfl) rfl rfl ?_
  refine W.sc (vs := [.slice A2 n2 c2, .agg #[.int .i64 p.id, .int .i64 p.fr, .int .i64 p.to, .int .i64 p.sz], .int .i64 v]) rfl rfl (by kernel_rfl) (by kernel_rfl) (by kernel_rfl) rfl (valveAt_any A2 n2 c2 vs p v _ (Rd.kept hb (SG.belowR c10 s11 (fun kq e => by cases e))) (by omega)) ?_
  rintro e w13 ⟨rfl, b12⟩
  have s14 := SG.of_below s11 b12
  refine ⟨_, rfl, s14, ?_⟩
  refine W.sq (v := .int .i64 (idxV (atQ p v) vs)) rfl (r_assign rfl (by kernel_rfl)) (by kernel_rfl) rfl rfl ?_
  refine W.sch_endU (fun U15 => [.agg #[.int .i64 p.id, .int .i64 p.fr, .int .i64 p.to, .int .i64 p.sz], .int .i64 v, .pointer (some ⟨B, 0, none⟩), .pointer (some ⟨b2, 0, none⟩), undef, .bool false, .int .i64 (idxV (atQ p v) vs), U15 7, U15 8, U15 9, U15 10, undef, undef, undef, undef, undef, undef, undef, undef, undef, undef]) (by kernel_rfl) (fun U15 => ?_)
  have hB := SG.blk s14 hB (by simp)
  have x6 := SG.blk s14 x6 (by simp)
  have c16 := (SG.belowR c10 s14 (fun kq e => by cases e))
  refine h2 _ _ ?_
  refine wp_seq_k (fun K3 h3 => ?_)
  refine W.region_quiet [(0, false), (1, false), (2, false), (3, false), (4, false), (5, false), (6, false), (7, false), (8, false), (9, false), (10, false)] (by kernel_rfl) ?_
  refine W.sq (v := .int .i64 (idxV (atQ p v) vs)) rfl (r_move rfl (by kernel_rfl)) (by kernel_rfl) rfl rfl ?_
  by_cases q17 : (idxV (atQ p v) vs : Int) < (0 : Int)
  · refine W.sq (v := .bool true) rfl (r_lss (m := idxV (atQ p v) vs) (n := 0) rfl (by kernel_rfl) (by kernel_rfl) (decide_eq_true q17)) (by kernel_rfl) rfl rfl ?_
    refine W.sq (v := .bool true) rfl (r_move rfl (by kernel_rfl)) (by kernel_rfl) rfl rfl ?_
    refine W.sk rfl rfl (by kernel_rfl) rfl rfl ?_
    refine W.sk rfl rfl (by kernel_rfl) rfl rfl ?_
    refine W.sk rfl rfl (by kernel_rfl) rfl rfl ?_
    refine W.sk rfl rfl (by kernel_rfl) rfl rfl ?_
    refine W.sk rfl rfl (by kernel_rfl) rfl rfl ?_
    refine W.sk rfl rfl (by kernel_rfl) rfl rfl ?_
    refine W.sq (v := .bool true) rfl (r_pick (b := true) rfl (by kernel_rfl) (by kernel_rfl)) (by kernel_rfl) rfl rfl ?_
    refine W.sq (v := .bool true) rfl (r_assign rfl (by kernel_rfl)) (by kernel_rfl) rfl rfl ?_
    refine W.sch_endU (fun U18 => [.agg #[.int .i64 p.id, .int .i64 p.fr, .int .i64 p.to, .int .i64 p.sz], .int .i64 v, .pointer (some ⟨B, 0, none⟩), .pointer (some ⟨b2, 0, none⟩), undef, .bool true, .int .i64 (idxV (atQ p v) vs), (U15 7), (U15 8), (U15 9), (U15 10), U18 11, U18 12, U18 13, undef, undef, undef, undef, undef, undef, U18 20]) (by kernel_rfl) (fun U18 => ?_)
    refine h3 _ _ ?_
    refine wp_ret ?_
    try simp only [Exit.then]
    refine ret1 (v := .bool true) rfl (by kernel_rfl) ?_
    exact ⟨ret_bool (idx_neg true q17).symm, c16⟩
  · refine W.sq (v := .bool false) rfl (r_lss (m := idxV (atQ p v) vs) (n := 0) rfl (by kernel_rfl) (by kernel_rfl) (decide_eq_false q17)) (by kernel_rfl) rfl rfl ?_
    refine W.sq (v := .bool false) rfl (r_move rfl (by kernel_rfl)) (by kernel_rfl) rfl rfl ?_
    refine W.sq (v := .slice A2 n2 c2) rfl (r_load rfl (by kernel_rfl) (by kernel_rfl) (eqS (blk_cell (j := 0) hB (by kernel_rfl)))) (by kernel_rfl) rfl rfl ?_
    refine W.sq (v := .int .i64 (idxV (atQ p v) vs)) rfl (r_move rfl (by kernel_rfl)) (by kernel_rfl) rfl rfl ?_
    obtain ⟨k9, x9, e9, hx9, hq9⟩ := idx_some q17
    have hk9 := (List.getElem?_eq_some_iff.1 hx9).1
    obtain ⟨b19, o20, hA21, hb22, hc23, hc24, hc25, hc26⟩ := Rd.elValve hb hx9
    refine W.sq (v := .pointer (some ⟨b19, o20 + k9 * 4, none⟩)) rfl (r_idx (n := n2) (c := c2) (k := k9) rfl (by kernel_rfl) hA21 (evk (z := idxV (atQ p v) vs) (by kernel_rfl) e9) (by kernel_rfl) (by have := hl2; omega)) (by kernel_rfl) rfl rfl ?_
    refine W.sq (v := .pointer (some ⟨b19, o20 + k9 * 4 + 3, none⟩)) rfl (r_field (k := 3) rfl (by kernel_rfl) (by kernel_rfl)) (by kernel_rfl) rfl rfl ?_
    refine W.sq (v := .bool x9.shut) rfl (r_load rfl (by kernel_rfl) (by kernel_rfl) (eqS (later c16 hc26))) (by kernel_rfl) rfl rfl ?_
    refine W.sq (v := .bool (!x9.shut)) rfl (r_not (b := x9.shut) rfl (by kernel_rfl) rfl) (by kernel_rfl) rfl rfl ?_
    refine W.sq (v := .bool (!x9.shut)) rfl (r_pick (b := false) rfl (by kernel_rfl) (by kernel_rfl)) (by kernel_rfl) rfl rfl ?_
    refine W.sq (v := .bool (!x9.shut)) rfl (r_assign rfl (by kernel_rfl)) (by kernel_rfl) rfl rfl ?_
    refine W.sch_endU (fun U27 => [.agg #[.int .i64 p.id, .int .i64 p.fr, .int .i64 p.to, .int .i64 p.sz], .int .i64 v, .pointer (some ⟨B, 0, none⟩), .pointer (some ⟨b2, 0, none⟩), undef, .bool (!x9.shut), .int .i64 (idxV (atQ p v) vs), (U15 7), (U15 8), (U15 9), (U15 10), U27 11, U27 12, U27 13, U27 14, U27 15, U27 16, U27 17, U27 18, U27 19, U27 20]) (by kernel_rfl) (fun U27 => ?_)
    refine h3 _ _ ?_
    refine wp_ret ?_
    try simp only [Exit.then]
    refine ret1 (v := .bool (!x9.shut)) rfl (by kernel_rfl) ?_
    exact ⟨ret_bool (idx_shut hu hx9 hq9).symm, c16⟩

set_option maxRecDepth 100000 in
set_option maxHeartbeats 1000000 in
theorem reached_any (m : Int) (A : Option Addr) (n c : Nat) (ps : List Pp) (a : Int) (s : Nat) (g : FuncId) (lb : Array Value) (q : Pp → Int → Bool) (w : World) (ha : Rd w 4 A n (pipesV ps)) (hn : n ≤ 1048576) (hp : pipesIn ps m.toNat) (hm : 1 ≤ m ∧ m ≤ 8) (hlen10 : ps.length ≤ 10) (hs : s < 19) (has : a = (s : Int)) (he : enters Try.prog g = true) (HG : ∀ W (p : Pp) (v : Int), Below w.heap.size w W → Calls Try.prog g (#[.agg #[.int .i64 p.id, .int .i64 p.fr, .int .i64 p.to, .int .i64 p.sz], .int .i64 v] ++ lb) W fun e w' => e = .returned (.bool (q p v)) ∧ Below W.heap.size W w') :
    Calls Try.prog 128 #[.agg #[.int .i64 m, .slice A n c], .int .i64 a, .func (.func g) #[] lb] w fun e w' => ∃ b, e = .returned (.pointer (some ⟨b, 0, none⟩)) ∧ w.heap.size ≤ b ∧ Rd w' 1 (some ⟨b, 0, none⟩) 19 (boolsV (wetL (linked ps q) a)) ∧ Below w.heap.size w w' := by
  have hl := rd_pipes_len ha
  subst has
  go_enter Try.func128, Try.ntmps128
  refine wp_seq_k (fun K1 h1 => ?_)
  refine W.region_plain (row := none) [(0, true), (1, false)] (by kernel_rfl) ?_
  have s1 := SG.self w none
  refine W.sn (fun b => .pointer (some ⟨b, 0, none⟩)) #[.int .i64 m, .slice A n c] 32 s1 rfl (by kernel_rfl) rfl (fun _ => by kernel_rfl) (fun b2 w3 hb4 k5 x6 s7 => ?_)
  have lo8 : w.heap.size ≤ b2 := by have := ((SG.belowR (Below.refl _ _) s1 (fun kq e => by cases e))).size; omega
  refine W.sq (v := .pointer none) rfl (r_assign rfl (by kernel_rfl)) (by kernel_rfl) rfl rfl ?_
  refine W.sch_end (l' := [.agg #[.int .i64 m, .slice A n c], .int .i64 ((s : Nat) : Int), .func (.func g) #[] lb, .pointer (some ⟨b2, 0, none⟩), undef, undef, .pointer none, undef, undef, undef, undef, undef, undef, undef, undef, undef, undef, undef, undef, undef, undef, undef, undef, undef, undef, undef, undef, undef, undef, undef, undef, undef, undef, undef, undef, undef, undef, undef, undef, undef, undef, undef, undef, undef, undef, undef, undef, undef, undef, undef, undef, undef, undef, undef, undef, undef, undef, undef, undef, undef, undef, undef, undef, undef, undef, undef, undef, undef]) (by kernel_rfl) ?_
  have c9 := (SG.belowR (Below.refl _ _) s7 (fun kq e => by cases e))
  refine h1 _ _ ?_
  refine wp_seq_k (fun K2 h2 => ?_)
  refine W.region_plain (row := none) [(0, false), (1, true), (2, false)] (by kernel_rfl) ?_
  have s10 := SG.self w3 none
  refine W.sq (v := .agg #[.bool false, .bool false, .bool false, .bool false, .bool false, .bool false, .bool false, .bool false, .bool false, .bool false, .bool false, .bool false, .bool false, .bool false, .bool false, .bool false, .bool false, .bool false, .bool false]) rfl (r_build rfl (vs := []) (by kernel_rfl) (by kernel_rfl)) (by kernel_rfl) rfl rfl ?_
  refine W.sn (fun b => .pointer (some ⟨b, 0, none⟩)) #[.bool false, .bool false, .bool false, .bool false, .bool false, .bool false, .bool false, .bool false, .bool false, .bool false, .bool false, .bool false, .bool false, .bool false, .bool false, .bool false, .bool false, .bool false, .bool false] 140 s10 rfl (by kernel_rfl) rfl (fun _ => by kernel_rfl) (fun b11 w12 hb13 k14 x15 s16 => ?_)
  have lo17 : w.heap.size ≤ b11 := by have := ((SG.belowR c9 s10 (fun kq e => by cases e))).size; omega
  have ne18 : b2 ≠ b11 := by have := blk_lt x6; have := World.grownBy.size s10; omega
  have ho19 := own_blk (base := w.heap.size) (size := 1) (n := 19) x15 lo17 rfl (by omega)
  replace ho19 : World.ownsRow _ _ _ _ _ _ (boolsV (List.replicate 19 false)) := ho19
  have nb20 : Nb b2 (.slice (some ⟨b11, 0, none⟩) 19 19) := nb_new (by have := ne18; omega)
  refine W.sq (v := .pointer (some ⟨b11, 0, none⟩)) rfl (r_assign rfl (by kernel_rfl)) (by kernel_rfl) rfl rfl ?_
  refine W.sch_endU (fun U21 => [.agg #[.int .i64 m, .slice A n c], .int .i64 ((s : Nat) : Int), .func (.func g) #[] lb, .pointer (some ⟨b2, 0, none⟩), undef, undef, .pointer none, .pointer (some ⟨b11, 0, none⟩), undef, undef, undef, undef, undef, U21 13, U21 14, undef, undef, undef, undef, undef, undef, undef, undef, undef, undef, undef, undef, undef, undef, undef, undef, undef, undef, undef, undef, undef, undef, undef, undef, undef, undef, undef, undef, undef, undef, undef, undef, undef, undef, undef, undef, undef, undef, undef, undef, undef, undef, undef, undef, undef, undef, undef, undef, undef, undef, undef, undef, undef]) (by kernel_rfl) (fun U21 => ?_)
  have x6 := SG.blk s16 x6 (by simp)
  have c22 := (SG.belowR c9 s16 (fun kq e => by cases e))
  refine h2 _ _ ?_
  refine wp_seq_k (fun K3 h3 => ?_)
  refine W.region_plain (row := (Value.ownBlock (.slice (some ⟨b11, 0, none⟩) 19 19))) [(0, false), (1, false), (2, false), (3, false), (4, true)] (by kernel_rfl) ?_
  have s23 := SG.self w12 (Value.ownBlock (.slice (some ⟨b11, 0, none⟩) 19 19))
  refine W.sq (v := .pointer (some ⟨b11, 0, none⟩)) rfl (r_move rfl (by kernel_rfl)) (by kernel_rfl) rfl rfl ?_
  refine W.sq (v := .int .i64 ((s : Nat) : Int)) rfl (r_move rfl (by kernel_rfl)) (by kernel_rfl) rfl rfl ?_
  refine W.sq (v := .pointer (some ⟨b11, 0, none⟩)) rfl (r_nilCheck rfl (by kernel_rfl)) (by kernel_rfl) rfl rfl ?_
  refine W.sq (v := .pointer (some ⟨b11, s, none⟩)) rfl (r_idxA (len := 19) (k := s) rfl (by kernel_rfl) (by kernel_rfl) (by kernel_rfl) (by omega)) (by kernel_rfl) rfl rfl ?_
  refine W.ssr (base := w.heap.size) (e := 140) (j := s) (u := .bool true) s23 rfl (by kernel_rfl) rfl rfl (by kernel_rfl) (by kernel_rfl) ho19 (by kernel_rfl) (by kernel_rfl) (by kernel_rfl) (by omega) (.inl rfl) (fun w24 ho25 g26 s27 => ?_)
  have ho25 := own_setB ho25
  refine W.sch_endU (fun U28 => [.agg #[.int .i64 m, .slice A n c], .int .i64 ((s : Nat) : Int), .func (.func g) #[] lb, .pointer (some ⟨b2, 0, none⟩), undef, undef, .pointer none, .pointer (some ⟨b11, 0, none⟩), undef, undef, undef, undef, undef, (U21 13), (U21 14), U28 15, U28 16, U28 17, U28 18, undef, undef, undef, undef, undef, undef, undef, undef, undef, undef, undef, undef, undef, undef, undef, undef, undef, undef, undef, undef, undef, undef, undef, undef, undef, undef, undef, undef, undef, undef, undef, undef, undef, undef, undef, undef, undef, undef, undef, undef, undef, undef, undef, undef, undef, undef, undef, undef, undef]) (by kernel_rfl) (fun U28 => ?_)
  have x6 := SG.blk s27 x6 nb20
  have c29 := (SG.belowR c22 s27 (fun kq e => (World.ownsRow.lt ho19 kq e).1))
  refine h3 _ _ ?_
  refine wp_seq_k (fun K4 h4 => ?_)
  refine wp_seq_k (fun K5 h5 => ?_)
  refine W.region_quiet [(0, false)] (by kernel_rfl) ?_
  refine W.sq (v := .bool true) rfl (r_assign rfl (by kernel_rfl)) (by kernel_rfl) rfl rfl ?_
  refine W.sch_end (l' := [.agg #[.int .i64 m, .slice A n c], .int .i64 ((s : Nat) : Int), .func (.func g) #[] lb, .pointer (some ⟨b2, 0, none⟩), undef, undef, .pointer none, .pointer (some ⟨b11, 0, none⟩), .bool true, undef, undef, undef, undef, (U21 13), (U21 14), (U28 15), (U28 16), (U28 17), (U28 18), undef, undef, undef, undef, undef, undef, undef, undef, undef, undef, undef, undef, undef, undef, undef, undef, undef, undef, undef, undef, undef, undef, undef, undef, undef, undef, undef, undef, undef, undef, undef, undef, undef, undef, undef, undef, undef, undef, undef, undef, undef, undef, undef, undef, undef, undef, undef, undef, undef]) (by kernel_rfl) ?_
  refine h5 _ _ ?_
  refine wp_block ?_
  refine loopK (fun am0 aa0 wl0 => ∃ (bs0 : List Bool) (mo : Bool) (U0 : Nat → Value), aa0 = ⟨[.agg #[.int .i64 m, .slice A n c], .int .i64 ((s : Nat) : Int), .func (.func g) #[] lb, .pointer (some ⟨b2, 0, none⟩), undef, undef, .pointer none, .pointer (some ⟨b11, 0, none⟩), .bool mo, U0 9, U0 10, undef, U0 12, (U21 13), (U21 14), (U28 15), (U28 16), (U28 17), (U28 18), U0 19, U0 20, U0 21, U0 22, U0 23, U0 24, U0 25, U0 26, U0 27, U0 28, U0 29, U0 30, U0 31, U0 32, U0 33, U0 34, U0 35, U0 36, U0 37, U0 38, U0 39, U0 40, U0 41, U0 42, U0 43, U0 44, U0 45, U0 46, U0 47, U0 48, U0 49, U0 50, U0 51, U0 52, U0 53, U0 54, U0 55, U0 56, U0 57, U0 58, U0 59, U0 60, U0 61, U0 62, U0 63, U0 64, U0 65, U0 66, undef].toArray, []⟩ ∧ (am0 = 2 * offs bs0 + mo.toNat) ∧ (FndE (linked ps q) ((s : Nat) : Int) (inL bs0)) ∧ (bs0.length = 19) ∧ (mo = false → shutE ps q (inL bs0) ps.length) ∧ (wl0.heap[b2]? = some (.cells #[.int .i64 m, .slice A n c] 32 (0, 0))) ∧ (wl0.ownsRow w.heap.size 140 1 (.slice (some ⟨b11, 0, none⟩) 19 19) 19 (boolsV bs0)) ∧ (Below w.heap.size w wl0)) (2 * offs ((List.replicate 19 false).set s true) + true.toNat) ?_ ?_
  · exact ⟨(List.replicate 19 false).set s true, true, (fun iU9 => [.agg #[.int .i64 m, .slice A n c], .int .i64 ((s : Nat) : Int), .func (.func g) #[] lb, .pointer (some ⟨b2, 0, none⟩), undef, undef, .pointer none, .pointer (some ⟨b11, 0, none⟩), .bool true, undef, undef, undef, undef, (U21 13), (U21 14), (U28 15), (U28 16), (U28 17), (U28 18), undef, undef, undef, undef, undef, undef, undef, undef, undef, undef, undef, undef, undef, undef, undef, undef, undef, undef, undef, undef, undef, undef, undef, undef, undef, undef, undef, undef, undef, undef, undef, undef, undef, undef, undef, undef, undef, undef, undef, undef, undef, undef, undef, undef, undef, undef, undef, undef, undef].getD iU9 undef), (by kernel_rfl), rfl, (FndE_start hs rfl), (by simp), (fun e => by cases e), x6, ho25, c29⟩
  rintro am0 aa0 wl0 K6 h6 ⟨bs0, mo, U0, rfl, rfl, hf, hlen, hsh, x6, ho0_7, c30⟩
  refine wp_seq_k (fun K7 h7 => ?_)
  refine wp_seq_k (fun K8 h8 => ?_)
  refine W.region_quiet [(0, false)] (by kernel_rfl) ?_
  refine W.sq (v := .bool mo) rfl (r_move rfl (by kernel_rfl)) (by kernel_rfl) rfl rfl ?_
  refine W.sch_end (l' := [.agg #[.int .i64 m, .slice A n c], .int .i64 ((s : Nat) : Int), .func (.func g) #[] lb, .pointer (some ⟨b2, 0, none⟩), undef, undef, .pointer none, .pointer (some ⟨b11, 0, none⟩), .bool mo, (U0 9), (U0 10), undef, (U0 12), (U21 13), (U21 14), (U28 15), (U28 16), (U28 17), (U28 18), .bool mo, (U0 20), (U0 21), (U0 22), (U0 23), (U0 24), (U0 25), (U0 26), (U0 27), (U0 28), (U0 29), (U0 30), (U0 31), (U0 32), (U0 33), (U0 34), (U0 35), (U0 36), (U0 37), (U0 38), (U0 39), (U0 40), (U0 41), (U0 42), (U0 43), (U0 44), (U0 45), (U0 46), (U0 47), (U0 48), (U0 49), (U0 50), (U0 51), (U0 52), (U0 53), (U0 54), (U0 55), (U0 56), (U0 57), (U0 58), (U0 59), (U0 60), (U0 61), (U0 62), (U0 63), (U0 64), (U0 65), (U0 66), undef]) (by kernel_rfl) ?_
  refine h8 _ _ ?_
  rcases Bool.eq_false_or_eq_true mo with q31 | q31
  · rw [q31]
    have qmo := q31
    refine wp_cond_true (by kernel_rfl) ?_
    refine wp_skip ?_
    refine h7 _ _ ?_
    refine wp_block ?_
    refine wp_seq_k (fun K9 h9 => ?_)
    refine W.region_quiet [(0, false)] (by kernel_rfl) ?_
    refine W.sq (v := .bool false) rfl (r_assign rfl (by kernel_rfl)) (by kernel_rfl) rfl rfl ?_
    refine W.sch_end (l' := [.agg #[.int .i64 m, .slice A n c], .int .i64 ((s : Nat) : Int), .func (.func g) #[] lb, .pointer (some ⟨b2, 0, none⟩), undef, undef, .pointer none, .pointer (some ⟨b11, 0, none⟩), .bool false, (U0 9), (U0 10), undef, (U0 12), (U21 13), (U21 14), (U28 15), (U28 16), (U28 17), (U28 18), .bool true, (U0 20), (U0 21), (U0 22), (U0 23), (U0 24), (U0 25), (U0 26), (U0 27), (U0 28), (U0 29), (U0 30), (U0 31), (U0 32), (U0 33), (U0 34), (U0 35), (U0 36), (U0 37), (U0 38), (U0 39), (U0 40), (U0 41), (U0 42), (U0 43), (U0 44), (U0 45), (U0 46), (U0 47), (U0 48), (U0 49), (U0 50), (U0 51), (U0 52), (U0 53), (U0 54), (U0 55), (U0 56), (U0 57), (U0 58), (U0 59), (U0 60), (U0 61), (U0 62), (U0 63), (U0 64), (U0 65), (U0 66), undef]) (by kernel_rfl) ?_
    refine h9 _ _ ?_
    refine wp_seq_k (fun K10 h10 => ?_)
    refine W.region_quiet [(0, false), (1, false), (2, false), (3, false)] (by kernel_rfl) ?_
    refine W.sq (v := .pointer (some ⟨b2, 1, none⟩)) rfl (r_field (k := 1) rfl (by kernel_rfl) (by kernel_rfl)) (by kernel_rfl) rfl rfl ?_
    refine W.sq (v := .slice A n c) rfl (r_load rfl (by kernel_rfl) (by kernel_rfl) (eqS (blk_cell (j := 1) x6 (by kernel_rfl)))) (by kernel_rfl) rfl rfl ?_
    refine W.sq (v := .int .i64 ((n : Nat) : Int)) rfl (r_len (A := A) (n := n) (c := c) rfl (by kernel_rfl) (by kernel_rfl)) (by kernel_rfl) rfl rfl ?_
    refine W.sq (v := .int .i64 0) rfl (r_move rfl (by kernel_rfl)) (by kernel_rfl) rfl rfl ?_
    refine W.sch_endU (fun U32 => [.agg #[.int .i64 m, .slice A n c], .int .i64 ((s : Nat) : Int), .func (.func g) #[] lb, .pointer (some ⟨b2, 0, none⟩), undef, undef, .pointer none, .pointer (some ⟨b11, 0, none⟩), .bool false, (U0 9), (U0 10), undef, (U0 12), (U21 13), (U21 14), (U28 15), (U28 16), (U28 17), (U28 18), .bool true, U32 20, .slice A n c, .int .i64 ((n : Nat) : Int), .int .i64 0, (U0 24), (U0 25), (U0 26), (U0 27), (U0 28), (U0 29), (U0 30), (U0 31), (U0 32), (U0 33), (U0 34), (U0 35), (U0 36), (U0 37), (U0 38), (U0 39), (U0 40), (U0 41), (U0 42), (U0 43), (U0 44), (U0 45), (U0 46), (U0 47), (U0 48), (U0 49), (U0 50), (U0 51), (U0 52), (U0 53), (U0 54), (U0 55), (U0 56), (U0 57), (U0 58), (U0 59), (U0 60), (U0 61), (U0 62), (U0 63), (U0 64), (U0 65), (U0 66), undef]) (by kernel_rfl) (fun U32 => ?_)
    refine h10 _ _ ?_
    refine wp_block ?_
    refine loopK (fun am1 aa1 wl1 => ∃ (i : Nat) (bs : List Bool) (mo2 : Bool) (U1 : Nat → Value), aa1 = ⟨[.agg #[.int .i64 m, .slice A n c], .int .i64 ((s : Nat) : Int), .func (.func g) #[] lb, .pointer (some ⟨b2, 0, none⟩), undef, undef, .pointer none, .pointer (some ⟨b11, 0, none⟩), .bool mo2, U1 9, U1 10, undef, U1 12, (U21 13), (U21 14), (U28 15), (U28 16), (U28 17), (U28 18), .bool true, (U32 20), .slice A n c, .int .i64 ((n : Nat) : Int), .int .i64 ((i : Nat) : Int), U1 24, U1 25, U1 26, U1 27, U1 28, U1 29, U1 30, U1 31, U1 32, U1 33, U1 34, U1 35, U1 36, U1 37, U1 38, U1 39, U1 40, U1 41, U1 42, U1 43, U1 44, U1 45, U1 46, U1 47, U1 48, U1 49, U1 50, U1 51, U1 52, U1 53, U1 54, U1 55, U1 56, U1 57, U1 58, U1 59, U1 60, U1 61, U1 62, U1 63, U1 64, U1 65, U1 66, undef].toArray, []⟩ ∧ (am1 = n - i) ∧ (i ≤ n) ∧ (FndE (linked ps q) ((s : Nat) : Int) (inL bs)) ∧ (bs.length = 19) ∧ (mo2 = true → offs bs < offs bs0) ∧ (mo2 = false → bs = bs0 ∧ shutE ps q (inL bs) i) ∧ (wl1.heap[b2]? = some (.cells #[.int .i64 m, .slice A n c] 32 (0, 0))) ∧ (wl1.ownsRow w.heap.size 140 1 (.slice (some ⟨b11, 0, none⟩) 19 19) 19 (boolsV bs)) ∧ (Below w.heap.size w wl1)) (n - 0) ?_ ?_
    · exact ⟨0, bs0, false, (fun iU9 => [.agg #[.int .i64 m, .slice A n c], .int .i64 ((s : Nat) : Int), .func (.func g) #[] lb, .pointer (some ⟨b2, 0, none⟩), undef, undef, .pointer none, .pointer (some ⟨b11, 0, none⟩), .bool false, (U0 9), (U0 10), undef, (U0 12), (U21 13), (U21 14), (U28 15), (U28 16), (U28 17), (U28 18), .bool true, (U32 20), .slice A n c, .int .i64 ((n : Nat) : Int), .int .i64 0, (U0 24), (U0 25), (U0 26), (U0 27), (U0 28), (U0 29), (U0 30), (U0 31), (U0 32), (U0 33), (U0 34), (U0 35), (U0 36), (U0 37), (U0 38), (U0 39), (U0 40), (U0 41), (U0 42), (U0 43), (U0 44), (U0 45), (U0 46), (U0 47), (U0 48), (U0 49), (U0 50), (U0 51), (U0 52), (U0 53), (U0 54), (U0 55), (U0 56), (U0 57), (U0 58), (U0 59), (U0 60), (U0 61), (U0 62), (U0 63), (U0 64), (U0 65), (U0 66), undef].getD iU9 undef), (by kernel_rfl), rfl, (Nat.zero_le _), hf, hlen, (fun e => by cases e), (fun _ => ⟨rfl, shutE_zero _ _ _⟩), x6, ho0_7, c30⟩
    rintro am1 aa1 wl1 K11 h11 ⟨i, bs, mo2, U1, rfl, rfl, hi, hf2, hlen2, hmt2, hmf2, x6, ho1_7, c33⟩
    refine wp_seq_k (fun K12 h12 => ?_)
    refine W.region_quiet [(0, false)] (by kernel_rfl) ?_
    by_cases q34 : (((i : Nat) : Int) : Int) < (((n : Nat) : Int) : Int)
    · refine W.sq (v := .bool true) rfl (r_lss (m := ((i : Nat) : Int)) (n := ((n : Nat) : Int)) rfl (by kernel_rfl) (by kernel_rfl) (decide_eq_true q34)) (by kernel_rfl) rfl rfl ?_
      refine W.sch_end (l' := [.agg #[.int .i64 m, .slice A n c], .int .i64 ((s : Nat) : Int), .func (.func g) #[] lb, .pointer (some ⟨b2, 0, none⟩), undef, undef, .pointer none, .pointer (some ⟨b11, 0, none⟩), .bool mo2, (U1 9), (U1 10), undef, (U1 12), (U21 13), (U21 14), (U28 15), (U28 16), (U28 17), (U28 18), .bool true, (U32 20), .slice A n c, .int .i64 ((n : Nat) : Int), .int .i64 ((i : Nat) : Int), .bool true, (U1 25), (U1 26), (U1 27), (U1 28), (U1 29), (U1 30), (U1 31), (U1 32), (U1 33), (U1 34), (U1 35), (U1 36), (U1 37), (U1 38), (U1 39), (U1 40), (U1 41), (U1 42), (U1 43), (U1 44), (U1 45), (U1 46), (U1 47), (U1 48), (U1 49), (U1 50), (U1 51), (U1 52), (U1 53), (U1 54), (U1 55), (U1 56), (U1 57), (U1 58), (U1 59), (U1 60), (U1 61), (U1 62), (U1 63), (U1 64), (U1 65), (U1 66), undef]) (by kernel_rfl) ?_
      refine h12 _ _ ?_
      refine wp_seq_k (fun K13 h13 => ?_)
      refine wp_cond_true (by kernel_rfl) ?_
      refine wp_skip ?_
      refine h13 _ _ ?_
      refine wp_seq_k (fun K14 h14 => ?_)
      refine wp_block ?_
      refine wp_seq_k (fun K15 h15 => ?_)
      refine W.region_plain (row := none) [(0, false), (1, false), (2, false), (3, true), (4, false), (5, true)] (by kernel_rfl) ?_
      have s35 := SG.self wl1 none
      refine W.sq (v := .int .i64 ((i : Nat) : Int)) rfl (r_move rfl (by kernel_rfl)) (by kernel_rfl) rfl rfl ?_
      obtain ⟨x36, hx37⟩ := get_of (zs := ps) (k := i) (by have := hl; omega)
      obtain ⟨b38, o39, hA40, hb41, hc42, hc43, hc44, hc45⟩ := Rd.elPipe ha hx37
      refine W.sq (v := .pointer (some ⟨b38, o39 + i * 4, none⟩)) rfl (r_idx (n := n) (c := c) (k := i) rfl (by kernel_rfl) hA40 (by kernel_rfl) (by kernel_rfl) (by have := hl; omega)) (by kernel_rfl) rfl rfl ?_
      refine W.sq (v := .agg #[.int .i64 x36.id, .int .i64 x36.fr, .int .i64 x36.to, .int .i64 x36.sz]) rfl (r_load4 rfl (by kernel_rfl) (by kernel_rfl) (by kernel_rfl) (sgS (later c33 hc42) (by simp)) (sgS (later c33 hc43) (by simp)) (sgS (later c33 hc44) (by simp)) (sgS (later c33 hc45) (by simp))) (by kernel_rfl) rfl rfl ?_
      refine W.sn (fun b => .pointer (some ⟨b, 0, none⟩)) #[.int .i64 0, .int .i64 0, .int .i64 0, .int .i64 0] 72 s35 rfl (by kernel_rfl) rfl (fun _ => by kernel_rfl) (fun b46 w47 hb48 k49 x50 s51 => ?_)
      have lo52 : w.heap.size ≤ b46 := by have := ((SG.belowR c33 s35 (fun kq e => by cases e))).size; omega
      have ne53 : b2 ≠ b46 := by have := blk_lt x6; have := World.grownBy.size s35; omega
      have nb54 : Nb b46 (.slice (some ⟨b11, 0, none⟩) 19 19) := nb_hi ho1_7 (Nat.le_of_eq hb48)
      have ho55 := own_kept ho1_7 k49
      refine W.sq (v := .int .i64 ((i : Nat) : Int)) rfl (r_assign rfl (by kernel_rfl)) (by kernel_rfl) rfl rfl ?_
      refine W.ss (v := .agg #[.int .i64 x36.id, .int .i64 x36.fr, .int .i64 x36.to, .int .i64 x36.sz]) (j := 0) (news := [.int .i64 x36.id, .int .i64 x36.fr, .int .i64 x36.to, .int .i64 x36.sz]) (cs' := #[.int .i64 x36.id, .int .i64 x36.fr, .int .i64 x36.to, .int .i64 x36.sz]) s51 rfl (by kernel_rfl) rfl rfl (by kernel_rfl) (by kernel_rfl) x50 (by kernel_rfl) (by kernel_rfl) (by simp) (by kernel_rfl) (by kernel_rfl) (.inr (by have := World.grownBy.size s35; have := hb48; omega)) (fun w56 g57 x58 s59 => ?_)
      have ho60 := own_grown ho55 g57 (fun j e1 e2 => by cases e2; exact nb54 e1.symm)
      refine W.sch_endU (fun U61 => [.agg #[.int .i64 m, .slice A n c], .int .i64 ((s : Nat) : Int), .func (.func g) #[] lb, .pointer (some ⟨b2, 0, none⟩), undef, undef, .pointer none, .pointer (some ⟨b11, 0, none⟩), .bool mo2, .int .i64 ((i : Nat) : Int), .pointer (some ⟨b46, 0, none⟩), undef, (U1 12), (U21 13), (U21 14), (U28 15), (U28 16), (U28 17), (U28 18), .bool true, (U32 20), .slice A n c, .int .i64 ((n : Nat) : Int), .int .i64 ((i : Nat) : Int), .bool true, U61 25, U61 26, U61 27, (U1 28), (U1 29), (U1 30), (U1 31), (U1 32), (U1 33), (U1 34), (U1 35), (U1 36), (U1 37), (U1 38), (U1 39), (U1 40), (U1 41), (U1 42), (U1 43), (U1 44), (U1 45), (U1 46), (U1 47), (U1 48), (U1 49), (U1 50), (U1 51), (U1 52), (U1 53), (U1 54), (U1 55), (U1 56), (U1 57), (U1 58), (U1 59), (U1 60), (U1 61), (U1 62), (U1 63), (U1 64), (U1 65), (U1 66), undef]) (by kernel_rfl) (fun U61 => ?_)
      have x6 := SG.blk s59 x6 (by simp)
      have c62 := (SG.belowR c33 s59 (fun kq e => by cases e))
      refine h15 _ _ ?_
      refine wp_seq_k (fun K16 h16 => ?_)
      refine W.region_plain (row := none) [(0, false), (1, false), (2, false), (3, false), (4, true), (5, false), (6, false)] (by kernel_rfl) ?_
      have s63 := SG.self w56 none
      refine W.sq (v := .pointer (some ⟨b46, 1, none⟩)) rfl (r_field (k := 1) rfl (by kernel_rfl) (by kernel_rfl)) (by kernel_rfl) rfl rfl ?_
      refine W.sq (v := .int .i64 x36.fr) rfl (r_load rfl (by kernel_rfl) (by kernel_rfl) (sgS (blk_cell (j := 1) x58 (by kernel_rfl)) (by simp))) (by kernel_rfl) rfl rfl ?_
      refine W.sq (v := .pointer (some ⟨b46, 2, none⟩)) rfl (r_field (k := 2) rfl (by kernel_rfl) (by kernel_rfl)) (by kernel_rfl) rfl rfl ?_
      refine W.sq (v := .int .i64 x36.to) rfl (r_load rfl (by kernel_rfl) (by kernel_rfl) (sgS (blk_cell (j := 2) x58 (by kernel_rfl)) (by simp))) (by kernel_rfl) rfl rfl ?_
      refine W.sn (fun b => .slice (some ⟨b, 0, none⟩) 2 2) #[.int .i64 x36.fr, .int .i64 x36.to] 3 s63 rfl (by kernel_rfl) rfl (fun _ => by kernel_rfl) (fun b64 w65 hb66 k67 x68 s69 => ?_)
      have lo70 : w.heap.size ≤ b64 := by have := ((SG.belowR c62 s63 (fun kq e => by cases e))).size; omega
      have ne71 : b2 ≠ b64 := by have := blk_lt x6; have := World.grownBy.size s63; omega
      have ne72 : b46 ≠ b64 := by have := blk_lt x58; have := World.grownBy.size s63; omega
      have nb73 : Nb b64 (.slice (some ⟨b11, 0, none⟩) 19 19) := nb_hi ho60 (Nat.le_of_eq hb66)
      have ho74 := own_kept ho60 k67
      refine W.sq (v := .int .i64 2) rfl (r_len (A := (some ⟨b64, 0, none⟩)) (n := 2) (c := 2) rfl (by kernel_rfl) (by kernel_rfl)) (by kernel_rfl) rfl rfl ?_
      refine W.sq (v := .int .i64 0) rfl (r_move rfl (by kernel_rfl)) (by kernel_rfl) rfl rfl ?_
      refine W.sch_endU (fun U75 => [.agg #[.int .i64 m, .slice A n c], .int .i64 ((s : Nat) : Int), .func (.func g) #[] lb, .pointer (some ⟨b2, 0, none⟩), undef, undef, .pointer none, .pointer (some ⟨b11, 0, none⟩), .bool mo2, .int .i64 ((i : Nat) : Int), .pointer (some ⟨b46, 0, none⟩), undef, (U1 12), (U21 13), (U21 14), (U28 15), (U28 16), (U28 17), (U28 18), .bool true, (U32 20), .slice A n c, .int .i64 ((n : Nat) : Int), .int .i64 ((i : Nat) : Int), .bool true, (U61 25), (U61 26), (U61 27), U75 28, U75 29, U75 30, U75 31, .slice (some ⟨b64, 0, none⟩) 2 2, .int .i64 2, .int .i64 0, (U1 35), (U1 36), (U1 37), (U1 38), (U1 39), (U1 40), (U1 41), (U1 42), (U1 43), (U1 44), (U1 45), (U1 46), (U1 47), (U1 48), (U1 49), (U1 50), (U1 51), (U1 52), (U1 53), (U1 54), (U1 55), (U1 56), (U1 57), (U1 58), (U1 59), (U1 60), (U1 61), (U1 62), (U1 63), (U1 64), (U1 65), (U1 66), undef]) (by kernel_rfl) (fun U75 => ?_)
      have x6 := SG.blk s69 x6 (by simp)
      have x58 := SG.blk s69 x58 (by simp)
      have c76 := (SG.belowR c62 s69 (fun kq e => by cases e))
      refine h16 _ _ ?_
      refine wp_block ?_
      have ho77 := own_blk (base := w.heap.size) (size := 1) (n := 2) x68 lo70 rfl (by omega)
      replace ho77 : World.ownsRow _ _ _ _ _ _ (intsV [x36.fr, x36.to]) := ho77
      have nr78 : NbR (.slice (some ⟨b64, 0, none⟩) 2 2) (.slice (some ⟨b11, 0, none⟩) 19 19) := nbr_new nb73
      have nb79 : Nb b2 (.slice (some ⟨b64, 0, none⟩) 2 2) := nb_new (by have := ne71; omega)
      have nb80 : Nb b46 (.slice (some ⟨b64, 0, none⟩) 2 2) := nb_new (by have := ne72; omega)
      have rd82 := own_rd ho77
      have hl83 := rd_ints_len rd82
      refine loopK (fun am2 aa2 wl2 => ∃ (k : Nat) (cs : List Bool) (mo3 : Bool) (U2 : Nat → Value), aa2 = ⟨[.agg #[.int .i64 m, .slice A n c], .int .i64 ((s : Nat) : Int), .func (.func g) #[] lb, .pointer (some ⟨b2, 0, none⟩), undef, undef, .pointer none, .pointer (some ⟨b11, 0, none⟩), .bool mo3, .int .i64 ((i : Nat) : Int), .pointer (some ⟨b46, 0, none⟩), undef, U2 12, (U21 13), (U21 14), (U28 15), (U28 16), (U28 17), (U28 18), .bool true, (U32 20), .slice A n c, .int .i64 ((n : Nat) : Int), .int .i64 ((i : Nat) : Int), .bool true, (U61 25), (U61 26), (U61 27), (U75 28), (U75 29), (U75 30), (U75 31), .slice (some ⟨b64, 0, none⟩) 2 2, .int .i64 2, .int .i64 ((k : Nat) : Int), U2 35, U2 36, U2 37, U2 38, U2 39, U2 40, U2 41, U2 42, U2 43, U2 44, U2 45, U2 46, U2 47, U2 48, U2 49, U2 50, U2 51, U2 52, U2 53, U2 54, U2 55, U2 56, U2 57, U2 58, U2 59, U2 60, U2 61, U2 62, U2 63, U2 64, U2 65, (U1 66), undef].toArray, []⟩ ∧ (am2 = 2 - k) ∧ (k ≤ 2) ∧ (FndE (linked ps q) ((s : Nat) : Int) (inL cs)) ∧ (cs.length = 19) ∧ (mo3 = true → offs cs < offs bs0) ∧ (mo3 = false → cs = bs0 ∧ shutE ps q (inL cs) i ∧ (1 ≤ k → okP q (inL cs) i x36 x36.fr) ∧ (2 ≤ k → okP q (inL cs) i x36 x36.to)) ∧ (wl2.heap[b2]? = some (.cells #[.int .i64 m, .slice A n c] 32 (0, 0))) ∧ (wl2.heap[b46]? = some (.cells #[.int .i64 x36.id, .int .i64 x36.fr, .int .i64 x36.to, .int .i64 x36.sz] 72 (0, 0))) ∧ (wl2.ownsRow w.heap.size 140 1 (.slice (some ⟨b11, 0, none⟩) 19 19) 19 (boolsV cs)) ∧ (Rd wl2 1 (some ⟨b64, 0, none⟩) 2 (intsV ([x36.fr, x36.to]))) ∧ (Below w.heap.size w wl2)) (2 - 0) ?_ ?_
      · exact ⟨0, bs, mo2, (fun iU9 => [.agg #[.int .i64 m, .slice A n c], .int .i64 ((s : Nat) : Int), .func (.func g) #[] lb, .pointer (some ⟨b2, 0, none⟩), undef, undef, .pointer none, .pointer (some ⟨b11, 0, none⟩), .bool mo2, .int .i64 ((i : Nat) : Int), .pointer (some ⟨b46, 0, none⟩), undef, (U1 12), (U21 13), (U21 14), (U28 15), (U28 16), (U28 17), (U28 18), .bool true, (U32 20), .slice A n c, .int .i64 ((n : Nat) : Int), .int .i64 ((i : Nat) : Int), .bool true, (U61 25), (U61 26), (U61 27), (U75 28), (U75 29), (U75 30), (U75 31), .slice (some ⟨b64, 0, none⟩) 2 2, .int .i64 2, .int .i64 0, (U1 35), (U1 36), (U1 37), (U1 38), (U1 39), (U1 40), (U1 41), (U1 42), (U1 43), (U1 44), (U1 45), (U1 46), (U1 47), (U1 48), (U1 49), (U1 50), (U1 51), (U1 52), (U1 53), (U1 54), (U1 55), (U1 56), (U1 57), (U1 58), (U1 59), (U1 60), (U1 61), (U1 62), (U1 63), (U1 64), (U1 65), (U1 66), undef].getD iU9 undef), (by kernel_rfl), rfl, (Nat.zero_le _), hf2, hlen2, hmt2, (fun e => ⟨(hmf2 e).1, (hmf2 e).2, fun h => absurd h (by omega), fun h => absurd h (by omega)⟩), x6, x58, ho74, rd82, c76⟩
      rintro am2 aa2 wl2 K17 h17 ⟨k, cs, mo3, U2, rfl, rfl, hk, hf3, hlen3, hmt3, hmf3, x6, x58, ho2_7, rd2_32, c84⟩
      refine wp_seq_k (fun K18 h18 => ?_)
      refine W.region_quiet [(0, false)] (by kernel_rfl) ?_
      by_cases q85 : (((k : Nat) : Int) : Int) < (2 : Int)
      · refine W.sq (v := .bool true) rfl (r_lss (m := ((k : Nat) : Int)) (n := 2) rfl (by kernel_rfl) (by kernel_rfl) (decide_eq_true q85)) (by kernel_rfl) rfl rfl ?_
        refine W.sch_end (l' := [.agg #[.int .i64 m, .slice A n c], .int .i64 ((s : Nat) : Int), .func (.func g) #[] lb, .pointer (some ⟨b2, 0, none⟩), undef, undef, .pointer none, .pointer (some ⟨b11, 0, none⟩), .bool mo3, .int .i64 ((i : Nat) : Int), .pointer (some ⟨b46, 0, none⟩), undef, (U2 12), (U21 13), (U21 14), (U28 15), (U28 16), (U28 17), (U28 18), .bool true, (U32 20), .slice A n c, .int .i64 ((n : Nat) : Int), .int .i64 ((i : Nat) : Int), .bool true, (U61 25), (U61 26), (U61 27), (U75 28), (U75 29), (U75 30), (U75 31), .slice (some ⟨b64, 0, none⟩) 2 2, .int .i64 2, .int .i64 ((k : Nat) : Int), .bool true, (U2 36), (U2 37), (U2 38), (U2 39), (U2 40), (U2 41), (U2 42), (U2 43), (U2 44), (U2 45), (U2 46), (U2 47), (U2 48), (U2 49), (U2 50), (U2 51), (U2 52), (U2 53), (U2 54), (U2 55), (U2 56), (U2 57), (U2 58), (U2 59), (U2 60), (U2 61), (U2 62), (U2 63), (U2 64), (U2 65), (U1 66), undef]) (by kernel_rfl) ?_
        refine h18 _ _ ?_
        refine wp_seq_k (fun K19 h19 => ?_)
        refine wp_cond_true (by kernel_rfl) ?_
        refine wp_skip ?_
        refine h19 _ _ ?_
        refine wp_seq_k (fun K20 h20 => ?_)
        refine wp_block ?_
        refine wp_seq_k (fun K21 h21 => ?_)
        refine W.region_quiet [(0, false), (1, false), (2, false)] (by kernel_rfl) ?_
        obtain ⟨x86, hx87⟩ := get_of (zs := [x36.fr, x36.to]) (k := k) (by have := hl83; omega)
        have hy2 := two_of hx87
        have hpx := hp x36 (List.mem_of_getElem? hx37)
        obtain ⟨b88, o89, hA90, hb91, hc92⟩ := Rd.elInt rd2_32 hx87
        refine W.sq (v := .pointer (some ⟨b88, o89 + k, none⟩)) rfl (r_idx1 (n := 2) (c := 2) (k := k) rfl (by kernel_rfl) hA90 (by kernel_rfl) (by kernel_rfl) (by have := hl83; omega)) (by kernel_rfl) rfl rfl ?_
        refine W.sq (v := .int .i64 x86) rfl (r_load rfl (by kernel_rfl) (by kernel_rfl) (eqS hc92)) (by kernel_rfl) rfl rfl ?_
        refine W.sq (v := .int .i64 x86) rfl (r_assign rfl (by kernel_rfl)) (by kernel_rfl) rfl rfl ?_
        refine W.sch_endU (fun U93 => [.agg #[.int .i64 m, .slice A n c], .int .i64 ((s : Nat) : Int), .func (.func g) #[] lb, .pointer (some ⟨b2, 0, none⟩), undef, undef, .pointer none, .pointer (some ⟨b11, 0, none⟩), .bool mo3, .int .i64 ((i : Nat) : Int), .pointer (some ⟨b46, 0, none⟩), undef, .int .i64 x86, (U21 13), (U21 14), (U28 15), (U28 16), (U28 17), (U28 18), .bool true, (U32 20), .slice A n c, .int .i64 ((n : Nat) : Int), .int .i64 ((i : Nat) : Int), .bool true, (U61 25), (U61 26), (U61 27), (U75 28), (U75 29), (U75 30), (U75 31), .slice (some ⟨b64, 0, none⟩) 2 2, .int .i64 2, .int .i64 ((k : Nat) : Int), .bool true, U93 36, U93 37, (U2 38), (U2 39), (U2 40), (U2 41), (U2 42), (U2 43), (U2 44), (U2 45), (U2 46), (U2 47), (U2 48), (U2 49), (U2 50), (U2 51), (U2 52), (U2 53), (U2 54), (U2 55), (U2 56), (U2 57), (U2 58), (U2 59), (U2 60), (U2 61), (U2 62), (U2 63), (U2 64), (U2 65), (U1 66), undef]) (by kernel_rfl) (fun U93 => ?_)
        refine h21 _ _ ?_
        refine wp_seq_k (fun K22 h22 => ?_)
        refine W.region_sch (row := none) (Sch.of [(0, false), (1, false), (2, false), (3, false), (4, false), (5, false), (6, false), (8, false), (7, true), (9, false), (10, false), (11, false), (12, false), (13, false), (14, false), (15, false), (16, true), (17, false)]) (by kernel_rfl) (by kernel_rfl) (fun _ d _ _ _ h => by cases d <;> exact h) (by kernel_rfl) (fun w94 e95 s96 => ?_)
        have ho97 := own_heap ho2_7 e95
        refine W.sq (v := .pointer (some ⟨b11, 0, none⟩)) rfl (r_move rfl (by kernel_rfl)) (by kernel_rfl) rfl rfl ?_
        refine W.sq (v := .int .i64 x86) rfl (r_move rfl (by kernel_rfl)) (by kernel_rfl) rfl rfl ?_
        refine W.sq (v := .pointer (some ⟨b11, 0, none⟩)) rfl (r_nilCheck rfl (by kernel_rfl)) (by kernel_rfl) rfl rfl ?_
        refine W.sq (v := .pointer (some ⟨b11, x86.toNat, none⟩)) rfl (r_idxA (len := 19) (k := x86.toNat) rfl (by kernel_rfl) (evk (z := x86) (by kernel_rfl) (by omega)) (by kernel_rfl) (by omega)) (by kernel_rfl) rfl rfl ?_
        obtain ⟨x98, hx99⟩ := get_of (zs := cs) (k := x86.toNat) (by have h9 := own_len ho97; rw [bools_len] at h9; omega)
        refine W.sq (v := .bool x98) rfl (r_load rfl (by kernel_rfl) (by kernel_rfl) (sgS (own_atB ho2_7 hx99) (by simp))) (by kernel_rfl) rfl rfl ?_
        refine W.sq (v := .pointer (some ⟨b11, 0, none⟩)) rfl (r_move rfl (by kernel_rfl)) (by kernel_rfl) rfl rfl ?_
        refine W.sq (v := .int .i64 ((i : Nat) : Int)) rfl (r_move rfl (by kernel_rfl)) (by kernel_rfl) rfl rfl ?_
        refine W.sq (v := .pointer (some ⟨b11, 0, none⟩)) rfl (r_nilCheck rfl (by kernel_rfl)) (by kernel_rfl) rfl rfl ?_
        refine W.sc (vs := [.int .i64 ((i : Nat) : Int)]) rfl rfl (by kernel_rfl) (by kernel_rfl) (by kernel_rfl) rfl (elementN_any i _ (by omega)) ?_
        rintro e w' ⟨rfl, rfl⟩
        refine ⟨_, rfl, s96, ?_⟩
        refine W.sq (v := .pointer (some ⟨b11, 9 + i, none⟩)) rfl (r_idxA (len := 19) (k := 9 + i) rfl (by kernel_rfl) (by kernel_rfl) (by kernel_rfl) (by omega)) (by kernel_rfl) rfl rfl ?_
        obtain ⟨x102, hx103⟩ := get_of (zs := cs) (k := 9 + i) (by have h9 := own_len ho97; rw [bools_len] at h9; omega)
        refine W.sq (v := .bool x102) rfl (r_load rfl (by kernel_rfl) (by kernel_rfl) (sgS (own_atB ho2_7 hx103) (by simp))) (by kernel_rfl) rfl rfl ?_
        by_cases q104 : x98 = x102
        · refine W.sq (v := .bool false) rfl (r_neqB (m := x98) (n := x102) rfl (by kernel_rfl) (by kernel_rfl) (by kernel_rfl) (by rw [(beq_iff_eq.2 q104)]; rfl)) (by kernel_rfl) rfl rfl ?_
          refine W.sq (v := .bool false) rfl (r_move rfl (by kernel_rfl)) (by kernel_rfl) rfl rfl ?_
          refine W.sk s96 rfl (by kernel_rfl) rfl rfl ?_
          refine W.sk s96 rfl (by kernel_rfl) rfl rfl ?_
          refine W.sk s96 rfl (by kernel_rfl) rfl rfl ?_
          refine W.sk s96 rfl (by kernel_rfl) rfl rfl ?_
          refine W.sq (v := .bool false) rfl (r_pick (b := false) rfl (by kernel_rfl) (by kernel_rfl)) (by kernel_rfl) rfl rfl ?_
          refine W.sch_endU (fun U105 => [.agg #[.int .i64 m, .slice A n c], .int .i64 ((s : Nat) : Int), .func (.func g) #[] lb, .pointer (some ⟨b2, 0, none⟩), undef, undef, .pointer none, .pointer (some ⟨b11, 0, none⟩), .bool mo3, .int .i64 ((i : Nat) : Int), .pointer (some ⟨b46, 0, none⟩), undef, .int .i64 x86, (U21 13), (U21 14), (U28 15), (U28 16), (U28 17), (U28 18), .bool true, (U32 20), .slice A n c, .int .i64 ((n : Nat) : Int), .int .i64 ((i : Nat) : Int), .bool true, (U61 25), (U61 26), (U61 27), (U75 28), (U75 29), (U75 30), (U75 31), .slice (some ⟨b64, 0, none⟩) 2 2, .int .i64 2, .int .i64 ((k : Nat) : Int), .bool true, (U93 36), (U93 37), U105 38, U105 39, U105 40, U105 41, U105 42, U105 43, U105 44, U105 45, U105 46, U105 47, U105 48, U105 49, U105 50, undef, undef, undef, undef, .bool false, (U2 56), (U2 57), (U2 58), (U2 59), (U2 60), (U2 61), (U2 62), (U2 63), (U2 64), (U2 65), (U1 66), undef]) (by kernel_rfl) (fun U105 => ?_)
          have x6 := SG.blk s96 x6 (by simp)
          have x58 := SG.blk s96 x58 (by simp)
          have c106 := (SG.belowR c84 s96 (fun kq e => by cases e))
          have rd107 := Rd.kept rd2_32 (SG.below s96)
          refine h22 _ _ ?_
          refine wp_cond_false (by kernel_rfl) ?_
          refine wp_skip ?_
          refine h20 _ _ ?_
          refine W.region_quiet [(0, false), (1, false)] (by kernel_rfl) ?_
          refine W.sq (v := .int .i64 ((k + 1 : Nat) : Int)) rfl (r_add (m := ((k : Nat) : Int)) (n := 1) (z := ((k + 1 : Nat) : Int)) rfl (by kernel_rfl) (by kernel_rfl) (by omega) (by omega)) (by kernel_rfl) rfl rfl ?_
          refine W.sq (v := .int .i64 ((k + 1 : Nat) : Int)) rfl (r_move rfl (by kernel_rfl)) (by kernel_rfl) rfl rfl ?_
          refine W.sch_endU (fun U108 => [.agg #[.int .i64 m, .slice A n c], .int .i64 ((s : Nat) : Int), .func (.func g) #[] lb, .pointer (some ⟨b2, 0, none⟩), undef, undef, .pointer none, .pointer (some ⟨b11, 0, none⟩), .bool mo3, .int .i64 ((i : Nat) : Int), .pointer (some ⟨b46, 0, none⟩), undef, .int .i64 x86, (U21 13), (U21 14), (U28 15), (U28 16), (U28 17), (U28 18), .bool true, (U32 20), .slice A n c, .int .i64 ((n : Nat) : Int), .int .i64 ((i : Nat) : Int), .bool true, (U61 25), (U61 26), (U61 27), (U75 28), (U75 29), (U75 30), (U75 31), .slice (some ⟨b64, 0, none⟩) 2 2, .int .i64 2, .int .i64 ((k + 1 : Nat) : Int), .bool true, (U93 36), (U93 37), (U105 38), (U105 39), (U105 40), (U105 41), (U105 42), (U105 43), (U105 44), (U105 45), (U105 46), (U105 47), (U105 48), (U105 49), (U105 50), undef, undef, undef, undef, .bool false, (U2 56), (U2 57), (U2 58), (U2 59), (U2 60), (U2 61), (U2 62), (U2 63), (U2 64), U108 65, (U1 66), undef]) (by kernel_rfl) (fun U108 => ?_)
          exact h17 _ _ _ (by omega : (2 - (k + 1)) < _) ⟨k + 1, cs, mo3, (fun iU9 => [.agg #[.int .i64 m, .slice A n c], .int .i64 ((s : Nat) : Int), .func (.func g) #[] lb, .pointer (some ⟨b2, 0, none⟩), undef, undef, .pointer none, .pointer (some ⟨b11, 0, none⟩), .bool mo3, .int .i64 ((i : Nat) : Int), .pointer (some ⟨b46, 0, none⟩), undef, .int .i64 x86, (U21 13), (U21 14), (U28 15), (U28 16), (U28 17), (U28 18), .bool true, (U32 20), .slice A n c, .int .i64 ((n : Nat) : Int), .int .i64 ((i : Nat) : Int), .bool true, (U61 25), (U61 26), (U61 27), (U75 28), (U75 29), (U75 30), (U75 31), .slice (some ⟨b64, 0, none⟩) 2 2, .int .i64 2, .int .i64 ((k + 1 : Nat) : Int), .bool true, (U93 36), (U93 37), (U105 38), (U105 39), (U105 40), (U105 41), (U105 42), (U105 43), (U105 44), (U105 45), (U105 46), (U105 47), (U105 48), (U105 49), (U105 50), undef, undef, undef, undef, .bool false, (U2 56), (U2 57), (U2 58), (U2 59), (U2 60), (U2 61), (U2 62), (U2 63), (U2 64), (U108 65), (U1 66), undef].getD iU9 undef), (by kernel_rfl), rfl, (by omega), hf3, hlen3, hmt3, (fun e => ⟨(hmf3 e).1, (hmf3 e).2.1, two_next hy2 (hmf3 e).2.2.1 (okP_same (k := x86.toNat) (by omega) hx99 hx103 q104)⟩), x6, x58, ho97, rd107, c106⟩
        · refine W.sq (v := .bool true) rfl (r_neqB (m := x98) (n := x102) rfl (by kernel_rfl) (by kernel_rfl) (by kernel_rfl) (by rw [(beq_eq_false_iff_ne.2 q104)]; rfl)) (by kernel_rfl) rfl rfl ?_
          refine W.sq (v := .bool true) rfl (r_move rfl (by kernel_rfl)) (by kernel_rfl) rfl rfl ?_
          refine W.sq (v := .func (.func g) #[] lb) rfl (r_move rfl (by kernel_rfl)) (by kernel_rfl) rfl rfl ?_
          refine W.sq (v := .agg #[.int .i64 x36.id, .int .i64 x36.fr, .int .i64 x36.to, .int .i64 x36.sz]) rfl (r_load4 rfl (by kernel_rfl) (by kernel_rfl) (by kernel_rfl) (sgS (blk_cell (j := 0) x58 (by kernel_rfl)) (by simp)) (sgS (blk_cell (j := 1) x58 (by kernel_rfl)) (by simp)) (sgS (blk_cell (j := 2) x58 (by kernel_rfl)) (by simp)) (sgS (blk_cell (j := 3) x58 (by kernel_rfl)) (by simp))) (by kernel_rfl) rfl rfl ?_
          refine W.sq (v := .int .i64 x86) rfl (r_move rfl (by kernel_rfl)) (by kernel_rfl) rfl rfl ?_
          refine W.scv (vs := [.agg #[.int .i64 x36.id, .int .i64 x36.fr, .int .i64 x36.to, .int .i64 x36.sz], .int .i64 x86]) (g := g) (lb := lb) rfl rfl (by kernel_rfl) (by kernel_rfl) he (by kernel_rfl) rfl (HG _ x36 x86 ((SG.belowR c84 s96 (fun kq e => by cases e)))) ?_
          rintro e w110 ⟨rfl, b109⟩
          have s111 := SG.of_below s96 b109
          refine ⟨_, rfl, s111, ?_⟩
          have ho112 := own_kept ho97 b109
          rcases Bool.eq_false_or_eq_true (q x36 x86) with q113 | q113
          · rw [q113]
            refine W.sq (v := .bool true) rfl (r_pick (b := true) rfl (by kernel_rfl) (by kernel_rfl)) (by kernel_rfl) rfl rfl ?_
            refine W.sch_endU (fun U114 => [.agg #[.int .i64 m, .slice A n c], .int .i64 ((s : Nat) : Int), .func (.func g) #[] lb, .pointer (some ⟨b2, 0, none⟩), undef, undef, .pointer none, .pointer (some ⟨b11, 0, none⟩), .bool mo3, .int .i64 ((i : Nat) : Int), .pointer (some ⟨b46, 0, none⟩), undef, .int .i64 x86, (U21 13), (U21 14), (U28 15), (U28 16), (U28 17), (U28 18), .bool true, (U32 20), .slice A n c, .int .i64 ((n : Nat) : Int), .int .i64 ((i : Nat) : Int), .bool true, (U61 25), (U61 26), (U61 27), (U75 28), (U75 29), (U75 30), (U75 31), .slice (some ⟨b64, 0, none⟩) 2 2, .int .i64 2, .int .i64 ((k : Nat) : Int), .bool true, (U93 36), (U93 37), U114 38, U114 39, U114 40, U114 41, U114 42, U114 43, U114 44, U114 45, U114 46, U114 47, U114 48, U114 49, U114 50, U114 51, U114 52, U114 53, U114 54, .bool true, (U2 56), (U2 57), (U2 58), (U2 59), (U2 60), (U2 61), (U2 62), (U2 63), (U2 64), (U2 65), (U1 66), undef]) (by kernel_rfl) (fun U114 => ?_)
            have x6 := SG.blk s111 x6 (by simp)
            have x58 := SG.blk s111 x58 (by simp)
            have c115 := (SG.belowR c84 s111 (fun kq e => by cases e))
            have rd116 := Rd.kept rd2_32 (SG.below s111)
            refine h22 _ _ ?_
            refine wp_cond_true (by kernel_rfl) ?_
            refine W.region_sch (row := (Value.ownBlock (.slice (some ⟨b11, 0, none⟩) 19 19))) (Sch.of [(0, false), (1, false), (2, false), (3, false), (5, false), (8, false), (4, true), (6, false), (7, true), (9, false), (10, true), (11, false)]) (by kernel_rfl) (by kernel_rfl) (fun _ d _ _ _ h => by cases d <;> exact h) (by kernel_rfl) (fun w117 e118 s119 => ?_)
            have ho120 := own_heap ho112 e118
            refine W.sq (v := .pointer (some ⟨b11, 0, none⟩)) rfl (r_move rfl (by kernel_rfl)) (by kernel_rfl) rfl rfl ?_
            refine W.sq (v := .int .i64 x86) rfl (r_move rfl (by kernel_rfl)) (by kernel_rfl) rfl rfl ?_
            refine W.sq (v := .pointer (some ⟨b11, 0, none⟩)) rfl (r_move rfl (by kernel_rfl)) (by kernel_rfl) rfl rfl ?_
            refine W.sq (v := .int .i64 ((i : Nat) : Int)) rfl (r_move rfl (by kernel_rfl)) (by kernel_rfl) rfl rfl ?_
            refine W.sq (v := .pointer (some ⟨b11, 0, none⟩)) rfl (r_nilCheck rfl (by kernel_rfl)) (by kernel_rfl) rfl rfl ?_
            refine W.sq (v := .pointer (some ⟨b11, 0, none⟩)) rfl (r_nilCheck rfl (by kernel_rfl)) (by kernel_rfl) rfl rfl ?_
            refine W.sc (vs := [.int .i64 ((i : Nat) : Int)]) rfl rfl (by kernel_rfl) (by kernel_rfl) (by kernel_rfl) rfl (elementN_any i _ (by omega)) ?_
            rintro e w' ⟨rfl, rfl⟩
            refine ⟨_, rfl, s119, ?_⟩
            refine W.sq (v := .pointer (some ⟨b11, x86.toNat, none⟩)) rfl (r_idxA (len := 19) (k := x86.toNat) rfl (by kernel_rfl) (evk (z := x86) (by kernel_rfl) (by omega)) (by kernel_rfl) (by omega)) (by kernel_rfl) rfl rfl ?_
            refine W.ssr (base := w.heap.size) (e := 140) (j := x86.toNat) (u := .bool true) s119 rfl (by kernel_rfl) rfl rfl (by kernel_rfl) (by kernel_rfl) ho120 (by kernel_rfl) (by kernel_rfl) (by kernel_rfl) (by omega) (.inl rfl) (fun w123 ho124 g125 s126 => ?_)
            have ho124 := own_setB ho124
            refine W.sq (v := .pointer (some ⟨b11, 9 + i, none⟩)) rfl (r_idxA (len := 19) (k := 9 + i) rfl (by kernel_rfl) (by kernel_rfl) (by kernel_rfl) (by omega)) (by kernel_rfl) rfl rfl ?_
            refine W.ssr (base := w.heap.size) (e := 140) (j := 9 + i) (u := .bool true) s126 rfl (by kernel_rfl) rfl rfl (by kernel_rfl) (by kernel_rfl) ho124 (by kernel_rfl) (by kernel_rfl) (by kernel_rfl) (by omega) (.inl rfl) (fun w127 ho128 g129 s130 => ?_)
            have ho128 := own_setB ho128
            refine W.sq (v := .bool true) rfl (r_assign rfl (by kernel_rfl)) (by kernel_rfl) rfl rfl ?_
            refine W.sch_endU (fun U131 => [.agg #[.int .i64 m, .slice A n c], .int .i64 ((s : Nat) : Int), .func (.func g) #[] lb, .pointer (some ⟨b2, 0, none⟩), undef, undef, .pointer none, .pointer (some ⟨b11, 0, none⟩), .bool true, .int .i64 ((i : Nat) : Int), .pointer (some ⟨b46, 0, none⟩), undef, .int .i64 x86, (U21 13), (U21 14), (U28 15), (U28 16), (U28 17), (U28 18), .bool true, (U32 20), .slice A n c, .int .i64 ((n : Nat) : Int), .int .i64 ((i : Nat) : Int), .bool true, (U61 25), (U61 26), (U61 27), (U75 28), (U75 29), (U75 30), (U75 31), .slice (some ⟨b64, 0, none⟩) 2 2, .int .i64 2, .int .i64 ((k : Nat) : Int), .bool true, (U93 36), (U93 37), (U114 38), (U114 39), (U114 40), (U114 41), (U114 42), (U114 43), (U114 44), (U114 45), (U114 46), (U114 47), (U114 48), (U114 49), (U114 50), (U114 51), (U114 52), (U114 53), (U114 54), .bool true, U131 56, U131 57, U131 58, U131 59, U131 60, U131 61, U131 62, U131 63, U131 64, (U2 65), (U1 66), undef]) (by kernel_rfl) (fun U131 => ?_)
            have x6 := SG.blk s130 x6 nb20
            have x58 := SG.blk s130 x58 nb54
            have c132 := (SG.belowR c115 s130 (fun kq e => (World.ownsRow.lt ho112 kq e).1))
            have rd133 := rd_nbr rd116 s130 nr78
            refine h20 _ _ ?_
            refine W.region_quiet [(0, false), (1, false)] (by kernel_rfl) ?_
            refine W.sq (v := .int .i64 ((k + 1 : Nat) : Int)) rfl (r_add (m := ((k : Nat) : Int)) (n := 1) (z := ((k + 1 : Nat) : Int)) rfl (by kernel_rfl) (by kernel_rfl) (by omega) (by omega)) (by kernel_rfl) rfl rfl ?_
            refine W.sq (v := .int .i64 ((k + 1 : Nat) : Int)) rfl (r_move rfl (by kernel_rfl)) (by kernel_rfl) rfl rfl ?_
            refine W.sch_endU (fun U134 => [.agg #[.int .i64 m, .slice A n c], .int .i64 ((s : Nat) : Int), .func (.func g) #[] lb, .pointer (some ⟨b2, 0, none⟩), undef, undef, .pointer none, .pointer (some ⟨b11, 0, none⟩), .bool true, .int .i64 ((i : Nat) : Int), .pointer (some ⟨b46, 0, none⟩), undef, .int .i64 x86, (U21 13), (U21 14), (U28 15), (U28 16), (U28 17), (U28 18), .bool true, (U32 20), .slice A n c, .int .i64 ((n : Nat) : Int), .int .i64 ((i : Nat) : Int), .bool true, (U61 25), (U61 26), (U61 27), (U75 28), (U75 29), (U75 30), (U75 31), .slice (some ⟨b64, 0, none⟩) 2 2, .int .i64 2, .int .i64 ((k + 1 : Nat) : Int), .bool true, (U93 36), (U93 37), (U114 38), (U114 39), (U114 40), (U114 41), (U114 42), (U114 43), (U114 44), (U114 45), (U114 46), (U114 47), (U114 48), (U114 49), (U114 50), (U114 51), (U114 52), (U114 53), (U114 54), .bool true, (U131 56), (U131 57), (U131 58), (U131 59), (U131 60), (U131 61), (U131 62), (U131 63), (U131 64), U134 65, (U1 66), undef]) (by kernel_rfl) (fun U134 => ?_)
            exact h17 _ _ _ (by omega : (2 - (k + 1)) < _) ⟨k + 1, ((cs.set x86.toNat true).set (9 + i) true), true, (fun iU9 => [.agg #[.int .i64 m, .slice A n c], .int .i64 ((s : Nat) : Int), .func (.func g) #[] lb, .pointer (some ⟨b2, 0, none⟩), undef, undef, .pointer none, .pointer (some ⟨b11, 0, none⟩), .bool true, .int .i64 ((i : Nat) : Int), .pointer (some ⟨b46, 0, none⟩), undef, .int .i64 x86, (U21 13), (U21 14), (U28 15), (U28 16), (U28 17), (U28 18), .bool true, (U32 20), .slice A n c, .int .i64 ((n : Nat) : Int), .int .i64 ((i : Nat) : Int), .bool true, (U61 25), (U61 26), (U61 27), (U75 28), (U75 29), (U75 30), (U75 31), .slice (some ⟨b64, 0, none⟩) 2 2, .int .i64 2, .int .i64 ((k + 1 : Nat) : Int), .bool true, (U93 36), (U93 37), (U114 38), (U114 39), (U114 40), (U114 41), (U114 42), (U114 43), (U114 44), (U114 45), (U114 46), (U114 47), (U114 48), (U114 49), (U114 50), (U114 51), (U114 52), (U114 53), (U114 54), .bool true, (U131 56), (U131 57), (U131 58), (U131 59), (U131 60), (U131 61), (U131 62), (U131 63), (U131 64), (U134 65), (U1 66), undef].getD iU9 undef), (by kernel_rfl), rfl, (by omega), (FndE.mark hf3 hx37 (by omega) q113 (by omega) (by omega) hx99 hx103 q104), (by simp [hlen3]), (fun _ => by have h9 := offs_two hx99 hx103 q104; rcases Bool.eq_false_or_eq_true mo3 with e | e <;> first | (have h8 := hmt3 e; omega) | (have h8 := (hmf3 e).1; rw [h8] at h9; rw [h8]; exact h9)), (fun e => by cases e), x6, x58, ho128, rd133, c132⟩
          · rw [q113]
            refine W.sq (v := .bool false) rfl (r_pick (b := true) rfl (by kernel_rfl) (by kernel_rfl)) (by kernel_rfl) rfl rfl ?_
            refine W.sch_endU (fun U135 => [.agg #[.int .i64 m, .slice A n c], .int .i64 ((s : Nat) : Int), .func (.func g) #[] lb, .pointer (some ⟨b2, 0, none⟩), undef, undef, .pointer none, .pointer (some ⟨b11, 0, none⟩), .bool mo3, .int .i64 ((i : Nat) : Int), .pointer (some ⟨b46, 0, none⟩), undef, .int .i64 x86, (U21 13), (U21 14), (U28 15), (U28 16), (U28 17), (U28 18), .bool true, (U32 20), .slice A n c, .int .i64 ((n : Nat) : Int), .int .i64 ((i : Nat) : Int), .bool true, (U61 25), (U61 26), (U61 27), (U75 28), (U75 29), (U75 30), (U75 31), .slice (some ⟨b64, 0, none⟩) 2 2, .int .i64 2, .int .i64 ((k : Nat) : Int), .bool true, (U93 36), (U93 37), U135 38, U135 39, U135 40, U135 41, U135 42, U135 43, U135 44, U135 45, U135 46, U135 47, U135 48, U135 49, U135 50, U135 51, U135 52, U135 53, U135 54, .bool false, (U2 56), (U2 57), (U2 58), (U2 59), (U2 60), (U2 61), (U2 62), (U2 63), (U2 64), (U2 65), (U1 66), undef]) (by kernel_rfl) (fun U135 => ?_)
            have x6 := SG.blk s111 x6 (by simp)
            have x58 := SG.blk s111 x58 (by simp)
            have c136 := (SG.belowR c84 s111 (fun kq e => by cases e))
            have rd137 := Rd.kept rd2_32 (SG.below s111)
            refine h22 _ _ ?_
            refine wp_cond_false (by kernel_rfl) ?_
            refine wp_skip ?_
            refine h20 _ _ ?_
            refine W.region_quiet [(0, false), (1, false)] (by kernel_rfl) ?_
            refine W.sq (v := .int .i64 ((k + 1 : Nat) : Int)) rfl (r_add (m := ((k : Nat) : Int)) (n := 1) (z := ((k + 1 : Nat) : Int)) rfl (by kernel_rfl) (by kernel_rfl) (by omega) (by omega)) (by kernel_rfl) rfl rfl ?_
            refine W.sq (v := .int .i64 ((k + 1 : Nat) : Int)) rfl (r_move rfl (by kernel_rfl)) (by kernel_rfl) rfl rfl ?_
            refine W.sch_endU (fun U138 => [.agg #[.int .i64 m, .slice A n c], .int .i64 ((s : Nat) : Int), .func (.func g) #[] lb, .pointer (some ⟨b2, 0, none⟩), undef, undef, .pointer none, .pointer (some ⟨b11, 0, none⟩), .bool mo3, .int .i64 ((i : Nat) : Int), .pointer (some ⟨b46, 0, none⟩), undef, .int .i64 x86, (U21 13), (U21 14), (U28 15), (U28 16), (U28 17), (U28 18), .bool true, (U32 20), .slice A n c, .int .i64 ((n : Nat) : Int), .int .i64 ((i : Nat) : Int), .bool true, (U61 25), (U61 26), (U61 27), (U75 28), (U75 29), (U75 30), (U75 31), .slice (some ⟨b64, 0, none⟩) 2 2, .int .i64 2, .int .i64 ((k + 1 : Nat) : Int), .bool true, (U93 36), (U93 37), (U135 38), (U135 39), (U135 40), (U135 41), (U135 42), (U135 43), (U135 44), (U135 45), (U135 46), (U135 47), (U135 48), (U135 49), (U135 50), (U135 51), (U135 52), (U135 53), (U135 54), .bool false, (U2 56), (U2 57), (U2 58), (U2 59), (U2 60), (U2 61), (U2 62), (U2 63), (U2 64), U138 65, (U1 66), undef]) (by kernel_rfl) (fun U138 => ?_)
            exact h17 _ _ _ (by omega : (2 - (k + 1)) < _) ⟨k + 1, cs, mo3, (fun iU9 => [.agg #[.int .i64 m, .slice A n c], .int .i64 ((s : Nat) : Int), .func (.func g) #[] lb, .pointer (some ⟨b2, 0, none⟩), undef, undef, .pointer none, .pointer (some ⟨b11, 0, none⟩), .bool mo3, .int .i64 ((i : Nat) : Int), .pointer (some ⟨b46, 0, none⟩), undef, .int .i64 x86, (U21 13), (U21 14), (U28 15), (U28 16), (U28 17), (U28 18), .bool true, (U32 20), .slice A n c, .int .i64 ((n : Nat) : Int), .int .i64 ((i : Nat) : Int), .bool true, (U61 25), (U61 26), (U61 27), (U75 28), (U75 29), (U75 30), (U75 31), .slice (some ⟨b64, 0, none⟩) 2 2, .int .i64 2, .int .i64 ((k + 1 : Nat) : Int), .bool true, (U93 36), (U93 37), (U135 38), (U135 39), (U135 40), (U135 41), (U135 42), (U135 43), (U135 44), (U135 45), (U135 46), (U135 47), (U135 48), (U135 49), (U135 50), (U135 51), (U135 52), (U135 53), (U135 54), .bool false, (U2 56), (U2 57), (U2 58), (U2 59), (U2 60), (U2 61), (U2 62), (U2 63), (U2 64), (U138 65), (U1 66), undef].getD iU9 undef), (by kernel_rfl), rfl, (by omega), hf3, hlen3, hmt3, (fun e => ⟨(hmf3 e).1, (hmf3 e).2.1, two_next hy2 (hmf3 e).2.2.1 (okP_shut q113)⟩), x6, x58, ho112, rd137, c136⟩
      · refine W.sq (v := .bool false) rfl (r_lss (m := ((k : Nat) : Int)) (n := 2) rfl (by kernel_rfl) (by kernel_rfl) (decide_eq_false q85)) (by kernel_rfl) rfl rfl ?_
        refine W.sch_end (l' := [.agg #[.int .i64 m, .slice A n c], .int .i64 ((s : Nat) : Int), .func (.func g) #[] lb, .pointer (some ⟨b2, 0, none⟩), undef, undef, .pointer none, .pointer (some ⟨b11, 0, none⟩), .bool mo3, .int .i64 ((i : Nat) : Int), .pointer (some ⟨b46, 0, none⟩), undef, (U2 12), (U21 13), (U21 14), (U28 15), (U28 16), (U28 17), (U28 18), .bool true, (U32 20), .slice A n c, .int .i64 ((n : Nat) : Int), .int .i64 ((i : Nat) : Int), .bool true, (U61 25), (U61 26), (U61 27), (U75 28), (U75 29), (U75 30), (U75 31), .slice (some ⟨b64, 0, none⟩) 2 2, .int .i64 2, .int .i64 ((k : Nat) : Int), .bool false, (U2 36), (U2 37), (U2 38), (U2 39), (U2 40), (U2 41), (U2 42), (U2 43), (U2 44), (U2 45), (U2 46), (U2 47), (U2 48), (U2 49), (U2 50), (U2 51), (U2 52), (U2 53), (U2 54), (U2 55), (U2 56), (U2 57), (U2 58), (U2 59), (U2 60), (U2 61), (U2 62), (U2 63), (U2 64), (U2 65), (U1 66), undef]) (by kernel_rfl) ?_
        refine h18 _ _ ?_
        refine wp_seq_k (fun K23 h23 => ?_)
        refine wp_cond_false (by kernel_rfl) ?_
        refine wp_exit ?_
        refine h14 _ _ ?_
        refine W.region_quiet [(0, false), (1, false)] (by kernel_rfl) ?_
        refine W.sq (v := .int .i64 ((i + 1 : Nat) : Int)) rfl (r_add (m := ((i : Nat) : Int)) (n := 1) (z := ((i + 1 : Nat) : Int)) rfl (by kernel_rfl) (by kernel_rfl) (by omega) (by omega)) (by kernel_rfl) rfl rfl ?_
        refine W.sq (v := .int .i64 ((i + 1 : Nat) : Int)) rfl (r_move rfl (by kernel_rfl)) (by kernel_rfl) rfl rfl ?_
        refine W.sch_endU (fun U139 => [.agg #[.int .i64 m, .slice A n c], .int .i64 ((s : Nat) : Int), .func (.func g) #[] lb, .pointer (some ⟨b2, 0, none⟩), undef, undef, .pointer none, .pointer (some ⟨b11, 0, none⟩), .bool mo3, .int .i64 ((i : Nat) : Int), .pointer (some ⟨b46, 0, none⟩), undef, (U2 12), (U21 13), (U21 14), (U28 15), (U28 16), (U28 17), (U28 18), .bool true, (U32 20), .slice A n c, .int .i64 ((n : Nat) : Int), .int .i64 ((i + 1 : Nat) : Int), .bool true, (U61 25), (U61 26), (U61 27), (U75 28), (U75 29), (U75 30), (U75 31), .slice (some ⟨b64, 0, none⟩) 2 2, .int .i64 2, .int .i64 ((k : Nat) : Int), .bool false, (U2 36), (U2 37), (U2 38), (U2 39), (U2 40), (U2 41), (U2 42), (U2 43), (U2 44), (U2 45), (U2 46), (U2 47), (U2 48), (U2 49), (U2 50), (U2 51), (U2 52), (U2 53), (U2 54), (U2 55), (U2 56), (U2 57), (U2 58), (U2 59), (U2 60), (U2 61), (U2 62), (U2 63), (U2 64), (U2 65), U139 66, undef]) (by kernel_rfl) (fun U139 => ?_)
        exact h11 _ _ _ (by omega : (n - (i + 1)) < _) ⟨i + 1, cs, mo3, (fun iU9 => [.agg #[.int .i64 m, .slice A n c], .int .i64 ((s : Nat) : Int), .func (.func g) #[] lb, .pointer (some ⟨b2, 0, none⟩), undef, undef, .pointer none, .pointer (some ⟨b11, 0, none⟩), .bool mo3, .int .i64 ((i : Nat) : Int), .pointer (some ⟨b46, 0, none⟩), undef, (U2 12), (U21 13), (U21 14), (U28 15), (U28 16), (U28 17), (U28 18), .bool true, (U32 20), .slice A n c, .int .i64 ((n : Nat) : Int), .int .i64 ((i + 1 : Nat) : Int), .bool true, (U61 25), (U61 26), (U61 27), (U75 28), (U75 29), (U75 30), (U75 31), .slice (some ⟨b64, 0, none⟩) 2 2, .int .i64 2, .int .i64 ((k : Nat) : Int), .bool false, (U2 36), (U2 37), (U2 38), (U2 39), (U2 40), (U2 41), (U2 42), (U2 43), (U2 44), (U2 45), (U2 46), (U2 47), (U2 48), (U2 49), (U2 50), (U2 51), (U2 52), (U2 53), (U2 54), (U2 55), (U2 56), (U2 57), (U2 58), (U2 59), (U2 60), (U2 61), (U2 62), (U2 63), (U2 64), (U2 65), (U139 66), undef].getD iU9 undef), (by kernel_rfl), rfl, (by omega), hf3, hlen3, hmt3, (fun e => ⟨(hmf3 e).1, (hmf3 e).2.1.next hx37 ((hmf3 e).2.2.1 (by omega)) ((hmf3 e).2.2.2 (by omega))⟩), x6, ho2_7, c84⟩
    · refine W.sq (v := .bool false) rfl (r_lss (m := ((i : Nat) : Int)) (n := ((n : Nat) : Int)) rfl (by kernel_rfl) (by kernel_rfl) (decide_eq_false q34)) (by kernel_rfl) rfl rfl ?_
      refine W.sch_end (l' := [.agg #[.int .i64 m, .slice A n c], .int .i64 ((s : Nat) : Int), .func (.func g) #[] lb, .pointer (some ⟨b2, 0, none⟩), undef, undef, .pointer none, .pointer (some ⟨b11, 0, none⟩), .bool mo2, (U1 9), (U1 10), undef, (U1 12), (U21 13), (U21 14), (U28 15), (U28 16), (U28 17), (U28 18), .bool true, (U32 20), .slice A n c, .int .i64 ((n : Nat) : Int), .int .i64 ((i : Nat) : Int), .bool false, (U1 25), (U1 26), (U1 27), (U1 28), (U1 29), (U1 30), (U1 31), (U1 32), (U1 33), (U1 34), (U1 35), (U1 36), (U1 37), (U1 38), (U1 39), (U1 40), (U1 41), (U1 42), (U1 43), (U1 44), (U1 45), (U1 46), (U1 47), (U1 48), (U1 49), (U1 50), (U1 51), (U1 52), (U1 53), (U1 54), (U1 55), (U1 56), (U1 57), (U1 58), (U1 59), (U1 60), (U1 61), (U1 62), (U1 63), (U1 64), (U1 65), (U1 66), undef]) (by kernel_rfl) ?_
      refine h12 _ _ ?_
      refine wp_seq_k (fun K24 h24 => ?_)
      refine wp_cond_false (by kernel_rfl) ?_
      refine wp_exit ?_
      exact h6 _ _ _ (by rcases Bool.eq_false_or_eq_true mo2 with e | e <;> rw [e] <;> simp only [Bool.toNat_true, Bool.toNat_false, qmo] <;> first | (have h9 := hmt2 e; omega) | (rw [(hmf2 e).1]; omega) : (2 * offs bs + mo2.toNat) < _) ⟨bs, mo2, (fun iU9 => [.agg #[.int .i64 m, .slice A n c], .int .i64 ((s : Nat) : Int), .func (.func g) #[] lb, .pointer (some ⟨b2, 0, none⟩), undef, undef, .pointer none, .pointer (some ⟨b11, 0, none⟩), .bool mo2, (U1 9), (U1 10), undef, (U1 12), (U21 13), (U21 14), (U28 15), (U28 16), (U28 17), (U28 18), .bool true, (U32 20), .slice A n c, .int .i64 ((n : Nat) : Int), .int .i64 ((i : Nat) : Int), .bool false, (U1 25), (U1 26), (U1 27), (U1 28), (U1 29), (U1 30), (U1 31), (U1 32), (U1 33), (U1 34), (U1 35), (U1 36), (U1 37), (U1 38), (U1 39), (U1 40), (U1 41), (U1 42), (U1 43), (U1 44), (U1 45), (U1 46), (U1 47), (U1 48), (U1 49), (U1 50), (U1 51), (U1 52), (U1 53), (U1 54), (U1 55), (U1 56), (U1 57), (U1 58), (U1 59), (U1 60), (U1 61), (U1 62), (U1 63), (U1 64), (U1 65), (U1 66), undef].getD iU9 undef), (by kernel_rfl), rfl, hf2, hlen2, (fun e => by have h9 := (hmf2 e).2; rw [show i = ps.length by omega] at h9; exact h9), x6, ho1_7, c33⟩
  · rw [q31]
    have qmo := q31
    refine wp_cond_false (by kernel_rfl) ?_
    refine wp_exit ?_
    refine h4 _ _ ?_
    refine wp_seq_k (fun K25 h25 => ?_)
    refine W.region_quiet [(0, false), (1, false)] (by kernel_rfl) ?_
    refine W.sq (v := .pointer (some ⟨b11, 0, none⟩)) rfl (r_move rfl (by kernel_rfl)) (by kernel_rfl) rfl rfl ?_
    refine W.sq (v := .pointer (some ⟨b11, 0, none⟩)) rfl (r_assign rfl (by kernel_rfl)) (by kernel_rfl) rfl rfl ?_
    refine W.sch_endU (fun U140 => [.agg #[.int .i64 m, .slice A n c], .int .i64 ((s : Nat) : Int), .func (.func g) #[] lb, .pointer (some ⟨b2, 0, none⟩), undef, undef, .pointer (some ⟨b11, 0, none⟩), .pointer (some ⟨b11, 0, none⟩), .bool false, (U0 9), (U0 10), undef, (U0 12), (U21 13), (U21 14), (U28 15), (U28 16), (U28 17), (U28 18), .bool false, (U0 20), (U0 21), (U0 22), (U0 23), (U0 24), (U0 25), (U0 26), (U0 27), (U0 28), (U0 29), (U0 30), (U0 31), (U0 32), (U0 33), (U0 34), (U0 35), (U0 36), (U0 37), (U0 38), (U0 39), (U0 40), (U0 41), (U0 42), (U0 43), (U0 44), (U0 45), (U0 46), (U0 47), (U0 48), (U0 49), (U0 50), (U0 51), (U0 52), (U0 53), (U0 54), (U0 55), (U0 56), (U0 57), (U0 58), (U0 59), (U0 60), (U0 61), (U0 62), (U0 63), (U0 64), (U0 65), (U0 66), U140 67]) (by kernel_rfl) (fun U140 => ?_)
    refine h25 _ _ ?_
    refine wp_ret ?_
    try simp only [Exit.then]
    refine ret1 (v := .pointer (some ⟨b11, 0, none⟩)) rfl (by kernel_rfl) ?_
    have e9 := wetL_of hlen (FndE.fin hf (hsh qmo))
    exact ⟨_, rfl, (World.ownsRow.lt ho0_7 _ (by simp [Value.ownBlock])).1, (by rw [← e9]; exact own_rd ho0_7), c30⟩

set_option maxRecDepth 100000 in
set_option maxHeartbeats 1000000 in
theorem segmentOf_any (m : Int) (A : Option Addr) (n c : Nat) (ps : List Pp) (A2 : Option Addr) (n2 c2 : Nat) (vs : List Vv) (a : Int) (s : Nat) (w : World) (ha : Rd w 4 A n (pipesV ps)) (hb : Rd w 4 A2 n2 (valvesV vs)) (hn : n ≤ 1048576) (hn2 : n2 ≤ 1048576) (hp : pipesIn ps m.toNat) (hm : 1 ≤ m ∧ m ≤ 8) (hlen10 : ps.length ≤ 10) (hs : s < 19) (has : a = (s : Int)) :
    Calls Try.prog 114 #[.agg #[.int .i64 m, .slice A n c], .slice A2 n2 c2, .int .i64 a] w fun e w' => ∃ b, e = .returned (.pointer (some ⟨b, 0, none⟩)) ∧ w.heap.size ≤ b ∧ Rd w' 1 (some ⟨b, 0, none⟩) 19 (boolsV (wetL (linked ps (openQ vs false)) a)) ∧ Below w.heap.size w w' := by
  have hl := rd_pipes_len ha
  have hl2 := rd_valves_len hb
  go_enter Try.func114, Try.ntmps114
  refine wp_seq_k (fun K1 h1 => ?_)
  refine W.region_plain (row := none) [(0, true), (1, true), (2, false)] (by kernel_rfl) ?_
  have s1 := SG.self w none
  refine W.sn (fun b => .pointer (some ⟨b, 0, none⟩)) #[.int .i64 m, .slice A n c] 32 s1 rfl (by kernel_rfl) rfl (fun _ => by kernel_rfl) (fun b2 w3 hb4 k5 x6 s7 => ?_)
  have lo8 : w.heap.size ≤ b2 := by have := ((SG.belowR (Below.refl _ _) s1 (fun kq e => by cases e))).size; omega
  refine W.sn (fun b => .pointer (some ⟨b, 0, none⟩)) #[.slice A2 n2 c2] 34 s7 rfl (by kernel_rfl) rfl (fun _ => by kernel_rfl) (fun b9 w10 hb11 k12 x13 s14 => ?_)
  have lo15 : w.heap.size ≤ b9 := by have := ((SG.belowR (Below.refl _ _) s7 (fun kq e => by cases e))).size; omega
  have ne16 : b2 ≠ b9 := by have := blk_lt x6; omega
  have x6 := (k12.block _ (blk_lt x6)).trans x6
  refine W.sq (v := .pointer none) rfl (r_assign rfl (by kernel_rfl)) (by kernel_rfl) rfl rfl ?_
  refine W.sch_end (l' := [.agg #[.int .i64 m, .slice A n c], .slice A2 n2 c2, .int .i64 a, .pointer (some ⟨b2, 0, none⟩), .pointer (some ⟨b9, 0, none⟩), undef, .pointer none, undef, undef, undef, undef]) (by kernel_rfl) ?_
  have c17 := (SG.belowR (Below.refl _ _) s14 (fun kq e => by cases e))
  refine h1 _ _ ?_
  refine wp_seq_k (fun K2 h2 => ?_)
  refine W.region_plain (row := none) [(0, false), (1, false), (2, false), (3, true), (4, false)] (by kernel_rfl) ?_
  have s18 := SG.self w10 none
  refine W.sq (v := .agg #[.int .i64 m, .slice A n c]) rfl (r_load2 rfl (by kernel_rfl) (by kernel_rfl) (by kernel_rfl) (sgS (blk_cell (j := 0) x6 (by kernel_rfl)) (by simp)) (sgS (blk_cell (j := 1) x6 (by kernel_rfl)) (by simp))) (by kernel_rfl) rfl rfl ?_
  refine W.sq (v := .int .i64 a) rfl (r_move rfl (by kernel_rfl)) (by kernel_rfl) rfl rfl ?_
  refine W.sq (v := .func (.func 137) #[] #[.pointer (some ⟨b9, 0, none⟩)]) rfl (r_makeFunc (vs := [.pointer (some ⟨b9, 0, none⟩)]) rfl (by kernel_rfl)) (by kernel_rfl) rfl rfl ?_
  refine W.sc (vs := [.agg #[.int .i64 m, .slice A n c], .int .i64 a, .func (.func 137) #[] #[.pointer (some ⟨b9, 0, none⟩)]]) rfl rfl (by kernel_rfl) (by kernel_rfl) (by kernel_rfl) rfl (reached_any m A n c ps a s 137 #[.pointer (some ⟨b9, 0, none⟩)] (openQ vs false) _ (Rd.kept ha (SG.belowR c17 s18 (fun kq e => by cases e))) (by omega) hp hm hlen10 hs has (by kernel_rfl) (fun W p v hW => segF_any p v b9 A2 n2 c2 vs W ((hW.block _ (blk_lt x13)).trans x13) (Rd.kept (Rd.kept hb (SG.belowR c17 s18 (fun kq e => by cases e))) hW) (by omega))) ?_
  rintro e w25 ⟨pb19, rfl, lo23, rd20, b24⟩
  have s26 := SG.of_below s18 b24
  refine ⟨_, rfl, s26, ?_⟩
  have hl21 := rd_bools_len rd20
  refine W.sq (v := .pointer (some ⟨pb19, 0, none⟩)) rfl (r_assign rfl (by kernel_rfl)) (by kernel_rfl) rfl rfl ?_
  refine W.sch_endU (fun U27 => [.agg #[.int .i64 m, .slice A n c], .slice A2 n2 c2, .int .i64 a, .pointer (some ⟨b2, 0, none⟩), .pointer (some ⟨b9, 0, none⟩), undef, .pointer (some ⟨pb19, 0, none⟩), U27 7, U27 8, U27 9, U27 10]) (by kernel_rfl) (fun U27 => ?_)
  have x6 := SG.blk s26 x6 (by simp)
  have x13 := SG.blk s26 x13 (by simp)
  have c28 := (SG.belowR c17 s26 (fun kq e => by cases e))
  refine h2 _ _ ?_
  refine wp_ret ?_
  try simp only [Exit.then]
  refine ret1 (v := .pointer (some ⟨pb19, 0, none⟩)) rfl (by kernel_rfl) ?_
  exact ⟨_, rfl, (by have := ((SG.belowR c17 s18 (fun kq e => by cases e))).size; omega), rd20, c28⟩

set_option maxRecDepth 100000 in
set_option maxHeartbeats 1000000 in
theorem watered_any (m : Int) (A : Option Addr) (n c : Nat) (ps : List Pp) (A2 : Option Addr) (n2 c2 : Nat) (vs : List Vv) (a : Int) (s : Nat) (w : World) (ha : Rd w 4 A n (pipesV ps)) (hb : Rd w 4 A2 n2 (valvesV vs)) (hn : n ≤ 1048576) (hn2 : n2 ≤ 1048576) (hp : pipesIn ps m.toNat) (hm : 1 ≤ m ∧ m ≤ 8) (hlen10 : ps.length ≤ 10) (hu : uniqV vs) (hs : s < 19) (has : a = (s : Int)) :
    Calls Try.prog 100 #[.agg #[.int .i64 m, .slice A n c], .slice A2 n2 c2, .int .i64 a] w fun e w' => ∃ b, e = .returned (.pointer (some ⟨b, 0, none⟩)) ∧ w.heap.size ≤ b ∧ Rd w' 1 (some ⟨b, 0, none⟩) 19 (boolsV (wetL (linked ps (openQ vs true)) a)) ∧ Below w.heap.size w w' := by
  have hl := rd_pipes_len ha
  have hl2 := rd_valves_len hb
  go_enter Try.func100, Try.ntmps100
  refine wp_seq_k (fun K1 h1 => ?_)
  refine W.region_plain (row := none) [(0, true), (1, true), (2, false)] (by kernel_rfl) ?_
  have s1 := SG.self w none
  refine W.sn (fun b => .pointer (some ⟨b, 0, none⟩)) #[.int .i64 m, .slice A n c] 32 s1 rfl (by kernel_rfl) rfl (fun _ => by kernel_rfl) (fun b2 w3 hb4 k5 x6 s7 => ?_)
  have lo8 : w.heap.size ≤ b2 := by have := ((SG.belowR (Below.refl _ _) s1 (fun kq e => by cases e))).size; omega
  refine W.sn (fun b => .pointer (some ⟨b, 0, none⟩)) #[.slice A2 n2 c2] 34 s7 rfl (by kernel_rfl) rfl (fun _ => by kernel_rfl) (fun b9 w10 hb11 k12 x13 s14 => ?_)
  have lo15 : w.heap.size ≤ b9 := by have := ((SG.belowR (Below.refl _ _) s7 (fun kq e => by cases e))).size; omega
  have ne16 : b2 ≠ b9 := by have := blk_lt x6; omega
  have x6 := (k12.block _ (blk_lt x6)).trans x6
  refine W.sq (v := .pointer none) rfl (r_assign rfl (by kernel_rfl)) (by kernel_rfl) rfl rfl ?_
  refine W.sch_end (l' := [.agg #[.int .i64 m, .slice A n c], .slice A2 n2 c2, .int .i64 a, .pointer (some ⟨b2, 0, none⟩), .pointer (some ⟨b9, 0, none⟩), undef, .pointer none, undef, undef, undef, undef]) (by kernel_rfl) ?_
  have c17 := (SG.belowR (Below.refl _ _) s14 (fun kq e => by cases e))
  refine h1 _ _ ?_
  refine wp_seq_k (fun K2 h2 => ?_)
  refine W.region_plain (row := none) [(0, false), (1, false), (2, false), (3, true), (4, false)] (by kernel_rfl) ?_
  have s18 := SG.self w10 none
  refine W.sq (v := .agg #[.int .i64 m, .slice A n c]) rfl (r_load2 rfl (by kernel_rfl) (by kernel_rfl) (by kernel_rfl) (sgS (blk_cell (j := 0) x6 (by kernel_rfl)) (by simp)) (sgS (blk_cell (j := 1) x6 (by kernel_rfl)) (by simp))) (by kernel_rfl) rfl rfl ?_
  refine W.sq (v := .int .i64 a) rfl (r_move rfl (by kernel_rfl)) (by kernel_rfl) rfl rfl ?_
  refine W.sq (v := .func (.func 129) #[] #[.pointer (some ⟨b9, 0, none⟩)]) rfl (r_makeFunc (vs := [.pointer (some ⟨b9, 0, none⟩)]) rfl (by kernel_rfl)) (by kernel_rfl) rfl rfl ?_
  refine W.sc (vs := [.agg #[.int .i64 m, .slice A n c], .int .i64 a, .func (.func 129) #[] #[.pointer (some ⟨b9, 0, none⟩)]]) rfl rfl (by kernel_rfl) (by kernel_rfl) (by kernel_rfl) rfl (reached_any m A n c ps a s 129 #[.pointer (some ⟨b9, 0, none⟩)] (openQ vs true) _ (Rd.kept ha (SG.belowR c17 s18 (fun kq e => by cases e))) (by omega) hp hm hlen10 hs has (by kernel_rfl) (fun W p v hW => watF_any p v b9 A2 n2 c2 vs W ((hW.block _ (blk_lt x13)).trans x13) (Rd.kept (Rd.kept hb (SG.belowR c17 s18 (fun kq e => by cases e))) hW) (by omega) hu)) ?_
  rintro e w25 ⟨pb19, rfl, lo23, rd20, b24⟩
  have s26 := SG.of_below s18 b24
  refine ⟨_, rfl, s26, ?_⟩
  have hl21 := rd_bools_len rd20
  refine W.sq (v := .pointer (some ⟨pb19, 0, none⟩)) rfl (r_assign rfl (by kernel_rfl)) (by kernel_rfl) rfl rfl ?_
  refine W.sch_endU (fun U27 => [.agg #[.int .i64 m, .slice A n c], .slice A2 n2 c2, .int .i64 a, .pointer (some ⟨b2, 0, none⟩), .pointer (some ⟨b9, 0, none⟩), undef, .pointer (some ⟨pb19, 0, none⟩), U27 7, U27 8, U27 9, U27 10]) (by kernel_rfl) (fun U27 => ?_)
  have x6 := SG.blk s26 x6 (by simp)
  have x13 := SG.blk s26 x13 (by simp)
  have c28 := (SG.belowR c17 s26 (fun kq e => by cases e))
  refine h2 _ _ ?_
  refine wp_ret ?_
  try simp only [Exit.then]
  refine ret1 (v := .pointer (some ⟨pb19, 0, none⟩)) rfl (by kernel_rfl) ?_
  exact ⟨_, rfl, (by have := ((SG.belowR c17 s18 (fun kq e => by cases e))).size; omega), rd20, c28⟩

end Go.Proofs.Ytnfmdkbelbppdaa
