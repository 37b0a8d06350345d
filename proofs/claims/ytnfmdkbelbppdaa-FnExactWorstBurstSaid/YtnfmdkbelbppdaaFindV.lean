/- The program's searches for a valve. -/
import Derived.Test.YtnfmdkbelbppdaaValP
import Derived.Test.YtnfmdkbelbppdaaFind
namespace Go.Proofs.Ytnfmdkbelbppdaa
open Go.RowKit
set_option linter.unusedVariables false

set_option maxRecDepth 100000 in
set_option maxHeartbeats 1000000 in
theorem valveIndexF_any (v : Vv) (id : Int) (B : Nat) (w : World) (hB : w.heap[B]? = some (.cells #[.int .i64 id] 3 (0, 0))) :
    Calls Try.prog 99 #[.agg #[.int .i64 v.id, .int .i64 v.pipe, .int .i64 v.node, .bool v.shut], .pointer (some ⟨B, 0, none⟩)] w fun e w' => e = .returned (.bool (decide (v.id = id))) ∧ Below w.heap.size w w' := by
  go_enter Try.func99, Try.ntmps99
  refine wp_seq_k (fun K1 h1 => ?_)
  refine region_plain (row := none) [(0, true), (1, false)] rfl ?_
  have s1 := SG.self w none
  refine sn (fun b => .pointer (some ⟨b, 0, none⟩)) #[.int .i64 v.id, .int .i64 v.pipe, .int .i64 v.node, .bool v.shut] 60 s1 rfl rfl rfl (fun _ => by kernel_rfl) (fun b2 w3 hb4 k5 x6 s7 => ?_)
  have lo8 : w.heap.size ≤ b2 := by have := ((SG.belowR (Below.refl _ _) s1 (fun kq e => by cases e))).size; omega
  have ne9 : B ≠ b2 := by have := blk_lt hB; have := World.grownBy.size s1; omega
  refine sq (v := .bool false) rfl (r_assign rfl rfl) rfl rfl rfl ?_
  refine sch_end ?_
  simp only [List.set_cons_zero, List.set_cons_succ]
  have hB := SG.blk s7 hB (by simp)
  have c10 := (SG.belowR (Below.refl _ _) s7 (fun kq e => by cases e))
  refine h1 _ _ ?_
  refine wp_seq_k (fun K2 h2 => ?_)
  refine region_quiet [(0, false), (1, false), (2, false), (3, false), (4, false)] rfl ?_
  refine sq (v := .pointer (some ⟨b2, 0, none⟩)) rfl (r_field0 rfl rfl (by kernel_rfl)) rfl rfl rfl ?_
  refine sq (v := .int .i64 v.id) rfl (r_load rfl rfl (by kernel_rfl) (eqS (blk_cell (j := 0) x6 rfl))) rfl rfl rfl ?_
  refine sq (v := .int .i64 id) rfl (r_load rfl rfl (by kernel_rfl) (eqS (blk_cell (j := 0) hB rfl))) rfl rfl rfl ?_
  by_cases q11 : (v.id : Int) = (id : Int)
  · refine sq (v := .bool true) rfl (r_eql rfl rfl rfl (decide_eq_true q11)) rfl rfl rfl ?_
    refine sq (v := .bool true) rfl (r_assign rfl rfl) rfl rfl rfl ?_
    simp only [List.set_cons_zero, List.set_cons_succ]
    refine sch_end ?_
    refine h2 _ _ ?_
    refine wp_ret ?_
    try simp only [Exit.then]
    refine ret1 rfl rfl ?_
    exact ⟨by simp_all, c10⟩
  · refine sq (v := .bool false) rfl (r_eql rfl rfl rfl (decide_eq_false q11)) rfl rfl rfl ?_
    refine sq (v := .bool false) rfl (r_assign rfl rfl) rfl rfl rfl ?_
    simp only [List.set_cons_zero, List.set_cons_succ]
    refine sch_end ?_
    refine h2 _ _ ?_
    refine wp_ret ?_
    try simp only [Exit.then]
    refine ret1 rfl rfl ?_
    exact ⟨by simp_all, c10⟩

set_option maxRecDepth 100000 in
set_option maxHeartbeats 1000000 in
theorem valveAtF_any (v : Vv) (p : Pp) (node : Int) (B C : Nat) (w : World) (hB : w.heap[B]? = some (.cells #[.int .i64 p.id, .int .i64 p.fr, .int .i64 p.to, .int .i64 p.sz] 72 (0, 0))) (hC : w.heap[C]? = some (.cells #[.int .i64 node] 3 (0, 0))) (hNE : B ≠ C) :
    Calls Try.prog 140 #[.agg #[.int .i64 v.id, .int .i64 v.pipe, .int .i64 v.node, .bool v.shut], .pointer (some ⟨B, 0, none⟩), .pointer (some ⟨C, 0, none⟩)] w fun e w' => e = .returned (.bool (decide (v.pipe = p.id) && decide (v.node = node))) ∧ Below w.heap.size w w' := by
  go_enter Try.func140, Try.ntmps140
  refine wp_seq_k (fun K1 h1 => ?_)
  refine region_plain (row := none) [(0, true), (1, false)] rfl ?_
  have s1 := SG.self w none
  refine sn (fun b => .pointer (some ⟨b, 0, none⟩)) #[.int .i64 v.id, .int .i64 v.pipe, .int .i64 v.node, .bool v.shut] 60 s1 rfl rfl rfl (fun _ => by kernel_rfl) (fun b2 w3 hb4 k5 x6 s7 => ?_)
  have lo8 : w.heap.size ≤ b2 := by have := ((SG.belowR (Below.refl _ _) s1 (fun kq e => by cases e))).size; omega
  have ne9 : B ≠ b2 := by have := blk_lt hB; have := World.grownBy.size s1; omega
  have ne10 : C ≠ b2 := by have := blk_lt hC; have := World.grownBy.size s1; omega
  refine sq (v := .bool false) rfl (r_assign rfl rfl) rfl rfl rfl ?_
  refine sch_end ?_
  simp only [List.set_cons_zero, List.set_cons_succ]
  have hB := SG.blk s7 hB (by simp)
  have hC := SG.blk s7 hC (by simp)
  have c11 := (SG.belowR (Below.refl _ _) s7 (fun kq e => by cases e))
  refine h1 _ _ ?_
  refine wp_seq_k (fun K2 h2 => ?_)
  refine region_quiet [(0, false), (1, false), (2, false), (3, false), (4, false), (5, false), (6, false), (7, false), (8, false), (9, false), (10, false), (11, false)] rfl ?_
  refine sq (v := .pointer (some ⟨b2, 1, none⟩)) rfl (r_field (k := 1) rfl rfl (by kernel_rfl)) rfl rfl rfl ?_
  refine sq (v := .int .i64 v.pipe) rfl (r_load rfl rfl (by kernel_rfl) (eqS (blk_cell (j := 1) x6 rfl))) rfl rfl rfl ?_
  refine sq (v := .pointer (some ⟨B, 0, none⟩)) rfl (r_field0 rfl rfl (by kernel_rfl)) rfl rfl rfl ?_
  refine sq (v := .int .i64 p.id) rfl (r_load rfl rfl (by kernel_rfl) (eqS (blk_cell (j := 0) hB rfl))) rfl rfl rfl ?_
  by_cases q12 : (v.pipe : Int) = (p.id : Int)
  · refine sq (v := .bool true) rfl (r_eql rfl rfl rfl (decide_eq_true q12)) rfl rfl rfl ?_
    simp only [List.set_cons_zero, List.set_cons_succ]
    refine sq (v := .bool true) rfl (r_move rfl rfl) rfl rfl rfl ?_
    refine sq (v := .pointer (some ⟨b2, 2, none⟩)) rfl (r_field (k := 2) rfl rfl (by kernel_rfl)) rfl rfl rfl ?_
    refine sq (v := .int .i64 v.node) rfl (r_load rfl rfl (by kernel_rfl) (eqS (blk_cell (j := 2) x6 rfl))) rfl rfl rfl ?_
    refine sq (v := .int .i64 node) rfl (r_load rfl rfl (by kernel_rfl) (eqS (blk_cell (j := 0) hC rfl))) rfl rfl rfl ?_
    by_cases q13 : (v.node : Int) = (node : Int)
    · refine sq (v := .bool true) rfl (r_eql rfl rfl rfl (decide_eq_true q13)) rfl rfl rfl ?_
      simp only [List.set_cons_zero, List.set_cons_succ]
      refine sq (v := .bool true) rfl (r_pick rfl rfl rfl) rfl rfl rfl ?_
      refine sq (v := .bool true) rfl (r_assign rfl rfl) rfl rfl rfl ?_
      refine sch_end ?_
      simp only [List.set_cons_zero, List.set_cons_succ]
      refine h2 _ _ ?_
      refine wp_ret ?_
      try simp only [Exit.then]
      refine ret1 rfl rfl ?_
      exact ⟨by simp_all, c11⟩
    · refine sq (v := .bool false) rfl (r_eql rfl rfl rfl (decide_eq_false q13)) rfl rfl rfl ?_
      simp only [List.set_cons_zero, List.set_cons_succ]
      refine sq (v := .bool false) rfl (r_pick rfl rfl rfl) rfl rfl rfl ?_
      refine sq (v := .bool false) rfl (r_assign rfl rfl) rfl rfl rfl ?_
      refine sch_end ?_
      simp only [List.set_cons_zero, List.set_cons_succ]
      refine h2 _ _ ?_
      refine wp_ret ?_
      try simp only [Exit.then]
      refine ret1 rfl rfl ?_
      exact ⟨by simp_all, c11⟩
  · refine sq (v := .bool false) rfl (r_eql rfl rfl rfl (decide_eq_false q12)) rfl rfl rfl ?_
    simp only [List.set_cons_zero, List.set_cons_succ]
    refine sq (v := .bool false) rfl (r_move rfl rfl) rfl rfl rfl ?_
    refine sk rfl rfl rfl rfl rfl ?_
    refine sk rfl rfl rfl rfl rfl ?_
    refine sk rfl rfl rfl rfl rfl ?_
    refine sk rfl rfl rfl rfl rfl ?_
    simp only [List.set_cons_zero, List.set_cons_succ]
    refine sq (v := .bool false) rfl (r_pick rfl rfl rfl) rfl rfl rfl ?_
    refine sq (v := .bool false) rfl (r_assign rfl rfl) rfl rfl rfl ?_
    refine sch_end ?_
    simp only [List.set_cons_zero, List.set_cons_succ]
    refine h2 _ _ ?_
    refine wp_ret ?_
    try simp only [Exit.then]
    refine ret1 rfl rfl ?_
    exact ⟨by simp_all, c11⟩

set_option maxRecDepth 100000 in
set_option maxHeartbeats 1000000 in
theorem validF_any (v u : Vv) (B : Nat) (w : World) (hB : w.heap[B]? = some (.cells #[.int .i64 u.id, .int .i64 u.pipe, .int .i64 u.node, .bool u.shut] 60 (0, 0))) :
    Calls Try.prog 119 #[.agg #[.int .i64 v.id, .int .i64 v.pipe, .int .i64 v.node, .bool v.shut], .pointer (some ⟨B, 0, none⟩)] w fun e w' => e = .returned (.bool (decide (v.pipe = u.pipe) && decide (v.node = u.node))) ∧ Below w.heap.size w w' := by
  go_enter Try.func119, Try.ntmps119
  refine wp_seq_k (fun K1 h1 => ?_)
  refine region_plain (row := none) [(0, true), (1, false)] rfl ?_
  have s1 := SG.self w none
  refine sn (fun b => .pointer (some ⟨b, 0, none⟩)) #[.int .i64 v.id, .int .i64 v.pipe, .int .i64 v.node, .bool v.shut] 60 s1 rfl rfl rfl (fun _ => by kernel_rfl) (fun b2 w3 hb4 k5 x6 s7 => ?_)
  have lo8 : w.heap.size ≤ b2 := by have := ((SG.belowR (Below.refl _ _) s1 (fun kq e => by cases e))).size; omega
  have ne9 : B ≠ b2 := by have := blk_lt hB; have := World.grownBy.size s1; omega
  refine sq (v := .bool false) rfl (r_assign rfl rfl) rfl rfl rfl ?_
  refine sch_end ?_
  simp only [List.set_cons_zero, List.set_cons_succ]
  have hB := SG.blk s7 hB (by simp)
  have c10 := (SG.belowR (Below.refl _ _) s7 (fun kq e => by cases e))
  refine h1 _ _ ?_
  refine wp_seq_k (fun K2 h2 => ?_)
  refine region_quiet [(0, false), (1, false), (2, false), (3, false), (4, false), (5, false), (6, false), (7, false), (8, false), (9, false), (10, false), (11, false), (12, false)] rfl ?_
  refine sq (v := .pointer (some ⟨b2, 1, none⟩)) rfl (r_field (k := 1) rfl rfl (by kernel_rfl)) rfl rfl rfl ?_
  refine sq (v := .int .i64 v.pipe) rfl (r_load rfl rfl (by kernel_rfl) (eqS (blk_cell (j := 1) x6 rfl))) rfl rfl rfl ?_
  refine sq (v := .pointer (some ⟨B, 1, none⟩)) rfl (r_field (k := 1) rfl rfl (by kernel_rfl)) rfl rfl rfl ?_
  refine sq (v := .int .i64 u.pipe) rfl (r_load rfl rfl (by kernel_rfl) (eqS (blk_cell (j := 1) hB rfl))) rfl rfl rfl ?_
  by_cases q11 : (v.pipe : Int) = (u.pipe : Int)
  · refine sq (v := .bool true) rfl (r_eql rfl rfl rfl (decide_eq_true q11)) rfl rfl rfl ?_
    simp only [List.set_cons_zero, List.set_cons_succ]
    refine sq (v := .bool true) rfl (r_move rfl rfl) rfl rfl rfl ?_
    refine sq (v := .pointer (some ⟨b2, 2, none⟩)) rfl (r_field (k := 2) rfl rfl (by kernel_rfl)) rfl rfl rfl ?_
    refine sq (v := .int .i64 v.node) rfl (r_load rfl rfl (by kernel_rfl) (eqS (blk_cell (j := 2) x6 rfl))) rfl rfl rfl ?_
    refine sq (v := .pointer (some ⟨B, 2, none⟩)) rfl (r_field (k := 2) rfl rfl (by kernel_rfl)) rfl rfl rfl ?_
    refine sq (v := .int .i64 u.node) rfl (r_load rfl rfl (by kernel_rfl) (eqS (blk_cell (j := 2) hB rfl))) rfl rfl rfl ?_
    simp only [List.set_cons_zero, List.set_cons_succ]
    by_cases q12 : (v.node : Int) = (u.node : Int)
    · refine sq (v := .bool true) rfl (r_eql rfl rfl rfl (decide_eq_true q12)) rfl rfl rfl ?_
      refine sq (v := .bool true) rfl (r_pick rfl rfl rfl) rfl rfl rfl ?_
      refine sq (v := .bool true) rfl (r_assign rfl rfl) rfl rfl rfl ?_
      refine sch_end ?_
      simp only [List.set_cons_zero, List.set_cons_succ]
      refine h2 _ _ ?_
      refine wp_ret ?_
      try simp only [Exit.then]
      refine ret1 rfl rfl ?_
      exact ⟨by simp_all, c10⟩
    · refine sq (v := .bool false) rfl (r_eql rfl rfl rfl (decide_eq_false q12)) rfl rfl rfl ?_
      refine sq (v := .bool false) rfl (r_pick rfl rfl rfl) rfl rfl rfl ?_
      refine sq (v := .bool false) rfl (r_assign rfl rfl) rfl rfl rfl ?_
      refine sch_end ?_
      simp only [List.set_cons_zero, List.set_cons_succ]
      refine h2 _ _ ?_
      refine wp_ret ?_
      try simp only [Exit.then]
      refine ret1 rfl rfl ?_
      exact ⟨by simp_all, c10⟩
  · refine sq (v := .bool false) rfl (r_eql rfl rfl rfl (decide_eq_false q11)) rfl rfl rfl ?_
    simp only [List.set_cons_zero, List.set_cons_succ]
    refine sq (v := .bool false) rfl (r_move rfl rfl) rfl rfl rfl ?_
    refine sk rfl rfl rfl rfl rfl ?_
    refine sk rfl rfl rfl rfl rfl ?_
    refine sk rfl rfl rfl rfl rfl ?_
    refine sk rfl rfl rfl rfl rfl ?_
    simp only [List.set_cons_zero, List.set_cons_succ]
    refine sk rfl rfl rfl rfl rfl ?_
    refine sq (v := .bool false) rfl (r_pick rfl rfl rfl) rfl rfl rfl ?_
    refine sq (v := .bool false) rfl (r_assign rfl rfl) rfl rfl rfl ?_
    refine sch_end ?_
    simp only [List.set_cons_zero, List.set_cons_succ]
    refine h2 _ _ ?_
    refine wp_ret ?_
    try simp only [Exit.then]
    refine ret1 rfl rfl ?_
    exact ⟨by simp_all, c10⟩

/-- The index of the first valve of a kind, -1 if there is none. -/
def idxV (q : Vv → Bool) : List Vv → Int
  | [] => -1
  | p :: ps => if q p = true then 0 else if idxV q ps < 0 then -1 else idxV q ps + 1
theorem idxV_at {q : Vv → Bool} : ∀ {ps : List Vv} {k : Nat} {x : Vv}, (∀ j z, j < k → ps[j]? = some z → q z = false) → ps[k]? = some x → q x = true → idxV q ps = (k : Int)
  | [], k, x, _, hx, _ => by simp at hx
  | p :: ps, 0, x, _, hx, e => by simp at hx; subst hx; unfold idxV; rw [if_pos e]; rfl
  | p :: ps, k + 1, x, h, hx, e => by
    have h0 := h 0 p (by omega) rfl
    have ih := idxV_at (q := q) (ps := ps) (k := k) (fun j z hj hz => h (j + 1) z (by omega) (by simpa using hz)) (by simpa using hx) e
    unfold idxV; rw [if_neg (by rw [h0]; simp), ih, if_neg (by omega)]; omega
theorem idxV_none {q : Vv → Bool} : ∀ {ps : List Vv}, (∀ (j : Nat) z, j < ps.length → ps[j]? = some z → q z = false) → idxV q ps = -1
  | [], _ => rfl
  | p :: ps, h => by
    have h0 := h 0 p (by simp) rfl
    have ih := idxV_none (q := q) (ps := ps) (fun j z hj hz => h (j + 1) z (by simp; omega) (by simpa using hz))
    unfold idxV; rw [if_neg (by rw [h0]; simp), ih]; rfl
/-- Where the search ends. -/
theorem idxV_cases (q : Vv → Bool) (ps : List Vv) : (idxV q ps = -1 ∧ ps.any q = false) ∨ ∃ (k : Nat) (x : Vv), idxV q ps = (k : Int) ∧ ps[k]? = some x ∧ q x = true ∧ ps.any q = true ∧ ∀ j z, j < k → ps[j]? = some z → q z = false := by
  induction ps with
  | nil => exact .inl ⟨rfl, rfl⟩
  | cons p ps ih =>
    by_cases hp : q p = true
    · exact .inr ⟨0, p, by unfold idxV; rw [if_pos hp]; rfl, rfl, hp, by simp [hp], fun j z hj => absurd hj (by omega)⟩
    · have hp' : q p = false := by simpa using hp
      rcases ih with ⟨h1, h2⟩ | ⟨k, x, h1, h2, h3, h4, h5⟩
      · exact .inl ⟨by unfold idxV; rw [if_neg hp, h1]; rfl, by simp [hp', h2]⟩
      · refine .inr ⟨k + 1, x, by unfold idxV; rw [if_neg hp, h1, if_neg (by omega)]; omega, by simpa using h2, h3, by rw [List.any_cons, h4, Bool.or_true], fun j z hj hz => ?_⟩
        rcases j with _ | j
        · simp at hz; subst hz; exact hp'
        · exact h5 j z (by omega) (by simpa using hz)
theorem idxV_pos (q : Vv → Bool) (ps : List Vv) : decide (0 ≤ idxV q ps) = ps.any q := by
  rcases idxV_cases q ps with ⟨h1, h2⟩ | ⟨k, x, h1, _, _, h4, _⟩
  · rw [h1, h2]; rfl
  · rw [h1, h4]; exact decide_eq_true (by omega)

set_option maxRecDepth 100000 in
set_option maxHeartbeats 1000000 in
theorem idxV_any (A : Option Addr) (n c : Nat) (vs : List Vv) (g : FuncId) (lb : Array Value) (q : Vv → Bool) (w : World) (ha : Rd w 4 A n (valvesV vs)) (hn : n ≤ 1048576) (he : enters Try.prog g = true) (HG : ∀ W v, Below w.heap.size w W → Calls Try.prog g (#[.agg #[.int .i64 v.id, .int .i64 v.pipe, .int .i64 v.node, .bool v.shut]] ++ lb) W fun e w' => e = .returned (.bool (q v)) ∧ Below W.heap.size W w') :
    Calls Try.prog 98 #[.slice A n c, .func (.func g) #[] lb] w fun e w' => e = .returned (.int .i64 (idxV q vs)) ∧ Below w.heap.size w w' := by
  have hl := rd_valves_len ha
  go_enter Try.func98, Try.ntmps98
  refine wp_seq_k (fun K1 h1 => ?_)
  refine region_quiet [(0, false)] rfl ?_
  refine sq (v := .int .i64 0) rfl (r_assign rfl rfl) rfl rfl rfl ?_
  refine sch_end ?_
  simp only [List.set_cons_zero, List.set_cons_succ]
  refine h1 _ _ ?_
  refine wp_seq_k (fun K2 h2 => ?_)
  refine wp_seq_k (fun K3 h3 => ?_)
  refine region_quiet [(0, false), (1, false), (2, false)] rfl ?_
  refine sq (v := .slice A n c) rfl (r_move rfl rfl) rfl rfl rfl ?_
  refine sq (v := .int .i64 ((n : Nat) : Int)) rfl (r_len rfl rfl (by kernel_rfl)) rfl rfl rfl ?_
  refine sq (v := .int .i64 0) rfl (r_move rfl rfl) rfl rfl rfl ?_
  refine sch_end ?_
  simp only [List.set_cons_zero, List.set_cons_succ]
  refine h3 _ _ ?_
  refine wp_block ?_
  refine loopK (fun am0 aa0 wl0 => ∃ (k : Nat) (u0_5 u0_9 u0_10 u0_11 u0_12 u0_13 u0_14 u0_15 u0_16 u0_17 u0_18 : Value), aa0 = ⟨[.slice A n c, .func (.func g) #[] lb, undef, undef, .int .i64 0, u0_5, .slice A n c, .int .i64 ((n : Nat) : Int), .int .i64 ((k : Nat) : Int), u0_9, u0_10, u0_11, u0_12, u0_13, u0_14, u0_15, u0_16, u0_17, u0_18].toArray, []⟩ ∧ (am0 = n - k) ∧ (k ≤ n) ∧ (∀ j z, j < k → vs[j]? = some z → q z = false) ∧ (Below w.heap.size w wl0)) (n - 0) ?_ ?_
  · exact ⟨0, _, _, _, _, _, _, _, _, _, _, _, rfl, rfl, (Nat.zero_le _), (fun j z hj => absurd hj (by omega)), (Below.refl _ _)⟩
  rintro am0 aa0 wl0 K4 h4 ⟨k, u0_5, u0_9, u0_10, u0_11, u0_12, u0_13, u0_14, u0_15, u0_16, u0_17, u0_18, rfl, rfl, hk, hno, c1⟩
  refine wp_seq_k (fun K5 h5 => ?_)
  refine region_quiet [(0, false)] rfl ?_
  by_cases q2 : (((k : Nat) : Int) : Int) < (((n : Nat) : Int) : Int)
  · refine sq (v := .bool true) rfl (r_lss rfl rfl rfl (decide_eq_true q2)) rfl rfl rfl ?_
    refine sch_end ?_
    simp only [List.set_cons_zero, List.set_cons_succ]
    refine h5 _ _ ?_
    refine wp_seq_k (fun K6 h6 => ?_)
    refine wp_cond_true rfl ?_
    refine wp_skip ?_
    refine h6 _ _ ?_
    refine wp_seq_k (fun K7 h7 => ?_)
    refine wp_block ?_
    refine wp_seq_k (fun K8 h8 => ?_)
    refine region_quiet [(0, false), (1, false)] rfl ?_
    refine sq (v := .int .i64 ((k : Nat) : Int)) rfl (r_move rfl rfl) rfl rfl rfl ?_
    refine sq (v := .int .i64 ((k : Nat) : Int)) rfl (r_assign rfl rfl) rfl rfl rfl ?_
    refine sch_end ?_
    simp only [List.set_cons_zero, List.set_cons_succ]
    refine h8 _ _ ?_
    refine wp_seq_k (fun K9 h9 => ?_)
    refine region_plain (row := none) [(0, false), (1, false), (2, false), (3, false), (4, false), (5, true)] rfl ?_
    have s3 := SG.self wl0 none
    refine sq (v := .func (.func g) #[] lb) rfl (r_move rfl rfl) rfl rfl rfl ?_
    refine sq (v := .slice A n c) rfl (r_move rfl rfl) rfl rfl rfl ?_
    refine sq (v := .int .i64 ((k : Nat) : Int)) rfl (r_move rfl rfl) rfl rfl rfl ?_
    obtain ⟨x4, hx5⟩ := get_of (zs := vs) (k := k) (by have := hl; omega)
    obtain ⟨b6, o7, hA8, hb9, hc10, hc11, hc12, hc13⟩ := Rd.elValve ha hx5
    refine sq (v := .pointer (some ⟨b6, o7 + k * 4, none⟩)) rfl (r_idx (k := k) rfl rfl hA8 rfl (by kernel_rfl) (by have := hl; omega)) rfl rfl rfl ?_
    refine sq (v := .agg #[.int .i64 x4.id, .int .i64 x4.pipe, .int .i64 x4.node, .bool x4.shut]) rfl (r_load4 rfl rfl (by kernel_rfl) (by kernel_rfl) (sgS (later c1 hc10) (by simp)) (sgS (later c1 hc11) (by simp)) (sgS (later c1 hc12) (by simp)) (sgS (later c1 hc13) (by simp))) rfl rfl rfl ?_
    simp only [List.set_cons_zero, List.set_cons_succ]
    refine scv (vs := [.agg #[.int .i64 x4.id, .int .i64 x4.pipe, .int .i64 x4.node, .bool x4.shut]]) rfl rfl rfl rfl he rfl rfl (HG _ x4 ((SG.belowR c1 s3 (fun kq e => by cases e)))) ?_
    rintro e w15 ⟨rfl, b14⟩
    have s16 := SG.of_below s3 b14
    refine ⟨_, rfl, s16, ?_⟩
    rcases Bool.eq_false_or_eq_true (q x4) with q17 | q17
    · rw [q17]
      refine sch_end ?_
      simp only [List.set_cons_zero, List.set_cons_succ]
      have c18 := (SG.belowR c1 s16 (fun kq e => by cases e))
      refine h9 _ _ ?_
      refine wp_cond_true rfl ?_
      refine wp_seq_k (fun K10 h10 => ?_)
      refine region_quiet [(0, false), (1, false)] rfl ?_
      refine sq (v := .int .i64 ((k : Nat) : Int)) rfl (r_move rfl rfl) rfl rfl rfl ?_
      refine sq (v := .int .i64 ((k : Nat) : Int)) rfl (r_assign rfl rfl) rfl rfl rfl ?_
      refine sch_end ?_
      simp only [List.set_cons_zero, List.set_cons_succ]
      refine h10 _ _ ?_
      refine wp_ret ?_
      try simp only [Exit.then, Exit.inBlock]
      refine ret1 rfl rfl ?_
      exact ⟨by rw [idxV_at hno hx5 q17]; rfl, c18⟩
    · rw [q17]
      refine sch_end ?_
      simp only [List.set_cons_zero, List.set_cons_succ]
      have c19 := (SG.belowR c1 s16 (fun kq e => by cases e))
      refine h9 _ _ ?_
      refine wp_cond_false rfl ?_
      refine wp_skip ?_
      refine h7 _ _ ?_
      refine region_quiet [(0, false), (1, false)] rfl ?_
      refine sq (v := .int .i64 ((k + 1 : Nat) : Int)) rfl (r_add (z := ((k + 1 : Nat) : Int)) rfl rfl rfl (by omega) (by omega)) rfl rfl rfl ?_
      refine sq (v := .int .i64 ((k + 1 : Nat) : Int)) rfl (r_move rfl rfl) rfl rfl rfl ?_
      refine sch_end ?_
      simp only [List.set_cons_zero, List.set_cons_succ]
      exact h4 _ _ _ (by omega : (n - (k + 1)) < _) ⟨k + 1, _, _, _, _, _, _, _, _, _, _, _, rfl, rfl, (by omega), (upto_succ (Q := fun z => q z = false) hno hx5 q17), c19⟩
  · refine sq (v := .bool false) rfl (r_lss rfl rfl rfl (decide_eq_false q2)) rfl rfl rfl ?_
    refine sch_end ?_
    simp only [List.set_cons_zero, List.set_cons_succ]
    refine h5 _ _ ?_
    refine wp_seq_k (fun K11 h11 => ?_)
    refine wp_cond_false rfl ?_
    refine wp_exit ?_
    refine h2 _ _ ?_
    refine wp_seq_k (fun K12 h12 => ?_)
    refine region_quiet [(0, false)] rfl ?_
    refine sq (v := .int .i64 (-1)) rfl (r_assign rfl rfl) rfl rfl rfl ?_
    refine sch_end ?_
    simp only [List.set_cons_zero, List.set_cons_succ]
    refine h12 _ _ ?_
    refine wp_ret ?_
    try simp only [Exit.then]
    refine ret1 rfl rfl ?_
    exact ⟨by rw [idxV_none (fun j z hj => hno j z (by omega))]; rfl, c1⟩

set_option maxRecDepth 100000 in
set_option maxHeartbeats 1000000 in
theorem anyV_any (A : Option Addr) (n c : Nat) (vs : List Vv) (g : FuncId) (lb : Array Value) (q : Vv → Bool) (w : World) (ha : Rd w 4 A n (valvesV vs)) (hn : n ≤ 1048576) (he : enters Try.prog g = true) (HG : ∀ W v, Below w.heap.size w W → Calls Try.prog g (#[.agg #[.int .i64 v.id, .int .i64 v.pipe, .int .i64 v.node, .bool v.shut]] ++ lb) W fun e w' => e = .returned (.bool (q v)) ∧ Below W.heap.size W w') :
    Calls Try.prog 118 #[.slice A n c, .func (.func g) #[] lb] w fun e w' => e = .returned (.bool (vs.any q)) ∧ Below w.heap.size w w' := by
  have hl := rd_valves_len ha
  go_enter Try.func118, Try.ntmps118
  refine wp_seq_k (fun K1 h1 => ?_)
  refine region_quiet [(0, false)] rfl ?_
  refine sq (v := .bool false) rfl (r_assign rfl rfl) rfl rfl rfl ?_
  refine sch_end ?_
  simp only [List.set_cons_zero, List.set_cons_succ]
  refine h1 _ _ ?_
  refine wp_seq_k (fun K2 h2 => ?_)
  refine region_plain (row := none) [(0, false), (1, false), (2, true), (3, false), (4, false)] rfl ?_
  have s1 := SG.self w none
  refine sq (v := .slice A n c) rfl (r_move rfl rfl) rfl rfl rfl ?_
  refine sq (v := .func (.func g) #[] lb) rfl (r_move rfl rfl) rfl rfl rfl ?_
  refine sc (vs := [.slice A n c, .func (.func g) #[] lb]) rfl rfl rfl (by kernel_rfl) rfl rfl (idxV_any A n c vs g lb q _ (Rd.kept ha (SG.belowR (Below.refl _ _) s1 (fun kq e => by cases e))) (by omega) he (fun W v hW => HG W v (((SG.belowR (Below.refl _ _) s1 (fun kq e => by cases e))).trans (hW.mono ((SG.belowR (Below.refl _ _) s1 (fun kq e => by cases e))).size)))) ?_
  rintro e w3 ⟨rfl, b2⟩
  have s4 := SG.of_below s1 b2
  refine ⟨_, rfl, s4, ?_⟩
  by_cases q5 : (idxV q vs : Int) ≥ (0 : Int)
  · refine sq (v := .bool true) rfl (r_geq rfl rfl rfl (decide_eq_true q5)) rfl rfl rfl ?_
    refine sq (v := .bool true) rfl (r_assign rfl rfl) rfl rfl rfl ?_
    simp only [List.set_cons_zero, List.set_cons_succ]
    refine sch_end ?_
    have c6 := (SG.belowR (Below.refl _ _) s4 (fun kq e => by cases e))
    refine h2 _ _ ?_
    refine wp_ret ?_
    try simp only [Exit.then]
    refine ret1 rfl rfl ?_
    exact ⟨by rw [← idxV_pos]; simp_all, c6⟩
  · refine sq (v := .bool false) rfl (r_geq rfl rfl rfl (decide_eq_false q5)) rfl rfl rfl ?_
    refine sq (v := .bool false) rfl (r_assign rfl rfl) rfl rfl rfl ?_
    simp only [List.set_cons_zero, List.set_cons_succ]
    refine sch_end ?_
    have c7 := (SG.belowR (Below.refl _ _) s4 (fun kq e => by cases e))
    refine h2 _ _ ?_
    refine wp_ret ?_
    try simp only [Exit.then]
    refine ret1 rfl rfl ?_
    exact ⟨by rw [← idxV_pos]; simp_all, c7⟩

set_option maxRecDepth 100000 in
set_option maxHeartbeats 1000000 in
theorem valveAt_any (A : Option Addr) (n c : Nat) (vs : List Vv) (p : Pp) (node : Int) (w : World) (ha : Rd w 4 A n (valvesV vs)) (hn : n ≤ 1048576) :
    Calls Try.prog 130 #[.slice A n c, .agg #[.int .i64 p.id, .int .i64 p.fr, .int .i64 p.to, .int .i64 p.sz], .int .i64 node] w fun e w' => e = .returned (.int .i64 (idxV (fun v => decide (v.pipe = p.id) && decide (v.node = node)) vs)) ∧ Below w.heap.size w w' := by
  have hl := rd_valves_len ha
  go_enter Try.func130, Try.ntmps130
  refine wp_seq_k (fun K1 h1 => ?_)
  refine region_plain (row := none) [(0, true), (1, true), (2, false)] rfl ?_
  have s1 := SG.self w none
  refine sn (fun b => .pointer (some ⟨b, 0, none⟩)) #[.int .i64 p.id, .int .i64 p.fr, .int .i64 p.to, .int .i64 p.sz] 72 s1 rfl rfl rfl (fun _ => by kernel_rfl) (fun b2 w3 hb4 k5 x6 s7 => ?_)
  have lo8 : w.heap.size ≤ b2 := by have := ((SG.belowR (Below.refl _ _) s1 (fun kq e => by cases e))).size; omega
  refine sn (fun b => .pointer (some ⟨b, 0, none⟩)) #[.int .i64 node] 3 s7 rfl rfl rfl (fun _ => by kernel_rfl) (fun b9 w10 hb11 k12 x13 s14 => ?_)
  have lo15 : w.heap.size ≤ b9 := by have := ((SG.belowR (Below.refl _ _) s7 (fun kq e => by cases e))).size; omega
  have ne16 : b2 ≠ b9 := by have := blk_lt x6; omega
  have x6 := (k12.block _ (blk_lt x6)).trans x6
  refine sq (v := .int .i64 0) rfl (r_assign rfl rfl) rfl rfl rfl ?_
  refine sch_end ?_
  simp only [List.set_cons_zero, List.set_cons_succ]
  have c17 := (SG.belowR (Below.refl _ _) s14 (fun kq e => by cases e))
  refine h1 _ _ ?_
  refine wp_seq_k (fun K2 h2 => ?_)
  refine region_plain (row := none) [(0, false), (1, false), (2, true), (3, false)] rfl ?_
  have s18 := SG.self w10 none
  refine sq (v := .slice A n c) rfl (r_move rfl rfl) rfl rfl rfl ?_
  refine sq (v := .func (.func 140) #[] #[.pointer (some ⟨b2, 0, none⟩), .pointer (some ⟨b9, 0, none⟩)]) rfl (r_makeFunc (vs := [.pointer (some ⟨b2, 0, none⟩), .pointer (some ⟨b9, 0, none⟩)]) rfl rfl) rfl rfl rfl ?_
  refine sc (vs := [.slice A n c, .func (.func 140) #[] #[.pointer (some ⟨b2, 0, none⟩), .pointer (some ⟨b9, 0, none⟩)]]) rfl rfl rfl (by kernel_rfl) rfl rfl (idxV_any A n c vs 140 #[.pointer (some ⟨b2, 0, none⟩), .pointer (some ⟨b9, 0, none⟩)] (fun v => decide (v.pipe = p.id) && decide (v.node = node)) _ (Rd.kept ha (SG.belowR c17 s18 (fun kq e => by cases e))) (by omega) (by kernel_rfl) (fun W v hW => valveAtF_any v p node b2 b9 W ((hW.block _ (blk_lt x6)).trans x6) ((hW.block _ (blk_lt x13)).trans x13) (by have := ne16; omega))) ?_
  rintro e w20 ⟨rfl, b19⟩
  have s21 := SG.of_below s18 b19
  refine ⟨_, rfl, s21, ?_⟩
  refine sq (v := .int .i64 (idxV (fun v => decide (v.pipe = p.id) && decide (v.node = node)) vs)) rfl (r_assign rfl rfl) rfl rfl rfl ?_
  refine sch_end ?_
  simp only [List.set_cons_zero, List.set_cons_succ]
  have x6 := SG.blk s21 x6 (by simp)
  have x13 := SG.blk s21 x13 (by simp)
  have c22 := (SG.belowR c17 s21 (fun kq e => by cases e))
  refine h2 _ _ ?_
  refine wp_ret ?_
  try simp only [Exit.then]
  refine ret1 rfl rfl ?_
  exact ⟨rfl, c22⟩

set_option maxRecDepth 100000 in
set_option maxHeartbeats 1000000 in
theorem valveIndex_any (A : Option Addr) (n c : Nat) (vs : List Vv) (id : Int) (w : World) (ha : Rd w 4 A n (valvesV vs)) (hn : n ≤ 1048576) :
    Calls Try.prog 58 #[.slice A n c, .int .i64 id] w fun e w' => e = .returned (.int .i64 (idxV (fun v => decide (v.id = id)) vs)) ∧ Below w.heap.size w w' := by
  have hl := rd_valves_len ha
  go_enter Try.func58, Try.ntmps58
  refine wp_seq_k (fun K1 h1 => ?_)
  refine region_plain (row := none) [(0, true), (1, false)] rfl ?_
  have s1 := SG.self w none
  refine sn (fun b => .pointer (some ⟨b, 0, none⟩)) #[.int .i64 id] 3 s1 rfl rfl rfl (fun _ => by kernel_rfl) (fun b2 w3 hb4 k5 x6 s7 => ?_)
  have lo8 : w.heap.size ≤ b2 := by have := ((SG.belowR (Below.refl _ _) s1 (fun kq e => by cases e))).size; omega
  refine sq (v := .int .i64 0) rfl (r_assign rfl rfl) rfl rfl rfl ?_
  refine sch_end ?_
  simp only [List.set_cons_zero, List.set_cons_succ]
  have c9 := (SG.belowR (Below.refl _ _) s7 (fun kq e => by cases e))
  refine h1 _ _ ?_
  refine wp_seq_k (fun K2 h2 => ?_)
  refine region_plain (row := none) [(0, false), (1, false), (2, true), (3, false)] rfl ?_
  have s10 := SG.self w3 none
  refine sq (v := .slice A n c) rfl (r_move rfl rfl) rfl rfl rfl ?_
  refine sq (v := .func (.func 99) #[] #[.pointer (some ⟨b2, 0, none⟩)]) rfl (r_makeFunc (vs := [.pointer (some ⟨b2, 0, none⟩)]) rfl rfl) rfl rfl rfl ?_
  refine sc (vs := [.slice A n c, .func (.func 99) #[] #[.pointer (some ⟨b2, 0, none⟩)]]) rfl rfl rfl (by kernel_rfl) rfl rfl (idxV_any A n c vs 99 #[.pointer (some ⟨b2, 0, none⟩)] (fun v => decide (v.id = id)) _ (Rd.kept ha (SG.belowR c9 s10 (fun kq e => by cases e))) (by omega) (by kernel_rfl) (fun W v hW => valveIndexF_any v id b2 W ((hW.block _ (blk_lt x6)).trans x6))) ?_
  rintro e w12 ⟨rfl, b11⟩
  have s13 := SG.of_below s10 b11
  refine ⟨_, rfl, s13, ?_⟩
  refine sq (v := .int .i64 (idxV (fun v => decide (v.id = id)) vs)) rfl (r_assign rfl rfl) rfl rfl rfl ?_
  refine sch_end ?_
  simp only [List.set_cons_zero, List.set_cons_succ]
  have x6 := SG.blk s13 x6 (by simp)
  have c14 := (SG.belowR c9 s13 (fun kq e => by cases e))
  refine h2 _ _ ?_
  refine wp_ret ?_
  try simp only [Exit.then]
  refine ret1 rfl rfl ?_
  exact ⟨rfl, c14⟩

end Go.Proofs.Ytnfmdkbelbppdaa
