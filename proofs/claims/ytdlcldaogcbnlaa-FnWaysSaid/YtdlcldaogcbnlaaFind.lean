/- The program's search for a pipe. -/
import Derived.Test.YtdlcldaogcbnlaaNetC
import Derived.Test.YtdlcldaogcbnlaaSch5
namespace Go.Proofs.Ytdlcldaogcbnlaa
open Go.RowKit
set_option linter.unusedVariables false

set_option maxRecDepth 100000 in
set_option maxHeartbeats 1000000 in
theorem pipeIndexF_any (p : Pp) (id : Int) (B : Nat) (w : World) (hB : w.heap[B]? = some (.cells #[.int .i64 id] 3 (0, 0))) :
    Calls Try.prog 71 #[.agg #[.int .i64 p.id, .int .i64 p.fr, .int .i64 p.to, .int .i64 p.sz], .pointer (some ⟨B, 0, none⟩)] w fun e w' => e = .returned (.bool (decide (p.id = id))) ∧ Below w.heap.size w w' := by
  go_enter Try.func71, Try.ntmps71
  refine wp_seq_k (fun K1 h1 => ?_)
  refine region_plain (row := none) [(0, true), (1, false)] rfl ?_
  have s1 := SG.self w none
  refine sn (fun b => .pointer (some ⟨b, 0, none⟩)) #[.int .i64 p.id, .int .i64 p.fr, .int .i64 p.to, .int .i64 p.sz] 51 s1 rfl rfl rfl (fun _ => by kernel_rfl) (fun b2 w3 hb4 k5 x6 s7 => ?_)
  have lo8 : w.heap.size ≤ b2 := by have := ((SG.belowR (Below.refl _ _) s1 (fun kq e => by cases e))).size; omega
  have ne9 : B ≠ b2 := by have := blk_lt hB; have := World.grownBy.size s1; omega
  refine sq (v := .bool false) rfl (r_assign rfl rfl) rfl rfl rfl ?_
  refine sch_end ?_
  simp only [List.set_cons_zero, List.set_cons_succ]
  have hB := SG.blk s7 hB (by simp)
  have c10 := (SG.belowR (Below.refl _ _) s7 (fun kq e => by cases e))
  refine h1 _ _ ?_
  refine wp_seq_k (fun K2 h2 => ?_)
  refine region_quiet [(0, false), (1, false), (2, false), (3, false), (4, false)] rfl ?_
  refine sq (v := .pointer (some ⟨b2, 0, none⟩)) rfl (r_field0 rfl rfl (by kernel_rfl)) rfl rfl rfl ?_
  refine sq (v := .int .i64 p.id) rfl (r_load rfl rfl (by kernel_rfl) (eqS (blk_cell (j := 0) x6 rfl))) rfl rfl rfl ?_
  refine sq (v := .int .i64 id) rfl (r_load rfl rfl (by kernel_rfl) (eqS (blk_cell (j := 0) hB rfl))) rfl rfl rfl ?_
  by_cases q11 : (p.id : Int) = (id : Int)
  · refine sq (v := .bool true) rfl (r_eql rfl rfl rfl (decide_eq_true q11)) rfl rfl rfl ?_
    refine sq (v := .bool true) rfl (r_assign rfl rfl) rfl rfl rfl ?_
    simp only [List.set_cons_zero, List.set_cons_succ]
    refine sch_end ?_
    refine h2 _ _ ?_
    refine wp_ret ?_
    try simp only [Exit.then]
    refine ret1 rfl rfl ?_
    exact ⟨by simp_all, c10⟩
  · refine sq (v := .bool false) rfl (r_eql rfl rfl rfl (decide_eq_false q11)) rfl rfl rfl ?_
    refine sq (v := .bool false) rfl (r_assign rfl rfl) rfl rfl rfl ?_
    simp only [List.set_cons_zero, List.set_cons_succ]
    refine sch_end ?_
    refine h2 _ _ ?_
    refine wp_ret ?_
    try simp only [Exit.then]
    refine ret1 rfl rfl ?_
    exact ⟨by simp_all, c10⟩

/-- The index of the first pipe of a kind, -1 if there is none. -/
def idxP (q : Pp → Bool) : List Pp → Int
  | [] => -1
  | p :: ps => if q p = true then 0 else if idxP q ps < 0 then -1 else idxP q ps + 1
theorem idxP_at {q : Pp → Bool} : ∀ {ps : List Pp} {k : Nat} {x : Pp}, (∀ j z, j < k → ps[j]? = some z → q z = false) → ps[k]? = some x → q x = true → idxP q ps = (k : Int)
  | [], k, x, _, hx, _ => by simp at hx
  | p :: ps, 0, x, _, hx, e => by simp at hx; subst hx; unfold idxP; rw [if_pos e]; rfl
  | p :: ps, k + 1, x, h, hx, e => by
    have h0 := h 0 p (by omega) rfl
    have ih := idxP_at (q := q) (ps := ps) (k := k) (fun j z hj hz => h (j + 1) z (by omega) (by simpa using hz)) (by simpa using hx) e
    unfold idxP; rw [if_neg (by rw [h0]; simp), ih, if_neg (by omega)]; omega
theorem idxP_none {q : Pp → Bool} : ∀ {ps : List Pp}, (∀ (j : Nat) z, j < ps.length → ps[j]? = some z → q z = false) → idxP q ps = -1
  | [], _ => rfl
  | p :: ps, h => by
    have h0 := h 0 p (by simp) rfl
    have ih := idxP_none (q := q) (ps := ps) (fun j z hj hz => h (j + 1) z (by simp; omega) (by simpa using hz))
    unfold idxP; rw [if_neg (by rw [h0]; simp), ih]; rfl
theorem idxP_find (ps : List Pp) (v : Int) : idxP (fun p => decide (p.id = v)) ps = findL ps v := by
  induction ps with
  | nil => rfl
  | cons p ps ih => unfold idxP findL; rw [ih]; simp

set_option maxRecDepth 100000 in
set_option maxHeartbeats 1000000 in
theorem idxP_any (A : Option Addr) (n c : Nat) (ps : List Pp) (g : FuncId) (lb : Array Value) (q : Pp → Bool) (w : World) (ha : Rd w 4 A n (pipesV ps)) (hn : n ≤ 1048576) (he : enters Try.prog g = true) (HG : ∀ W p, Below w.heap.size w W → Calls Try.prog g (#[.agg #[.int .i64 p.id, .int .i64 p.fr, .int .i64 p.to, .int .i64 p.sz]] ++ lb) W fun e w' => e = .returned (.bool (q p)) ∧ Below W.heap.size W w') :
    Calls Try.prog 70 #[.slice A n c, .func (.func g) #[] lb] w fun e w' => e = .returned (.int .i64 (idxP q ps)) ∧ Below w.heap.size w w' := by
  have hl := rd_pipes_len ha
  go_enter Try.func70, Try.ntmps70
  refine wp_seq_k (fun K1 h1 => ?_)
  refine region_quiet [(0, false)] rfl ?_
  refine sq (v := .int .i64 0) rfl (r_assign rfl rfl) rfl rfl rfl ?_
  refine sch_end ?_
  simp only [List.set_cons_zero, List.set_cons_succ]
  refine h1 _ _ ?_
  refine wp_seq_k (fun K2 h2 => ?_)
  refine wp_seq_k (fun K3 h3 => ?_)
  refine region_quiet [(0, false), (1, false), (2, false)] rfl ?_
  refine sq (v := .slice A n c) rfl (r_move rfl rfl) rfl rfl rfl ?_
  refine sq (v := .int .i64 ((n : Nat) : Int)) rfl (r_len rfl rfl (by kernel_rfl)) rfl rfl rfl ?_
  refine sq (v := .int .i64 0) rfl (r_move rfl rfl) rfl rfl rfl ?_
  refine sch_end ?_
  simp only [List.set_cons_zero, List.set_cons_succ]
  refine h3 _ _ ?_
  refine wp_block ?_
  refine loopK (fun am0 aa0 wl0 => ∃ (k : Nat) (u0_5 u0_9 u0_10 u0_11 u0_12 u0_13 u0_14 u0_15 u0_16 u0_17 u0_18 : Value), aa0 = ⟨[.slice A n c, .func (.func g) #[] lb, undef, undef, .int .i64 0, u0_5, .slice A n c, .int .i64 ((n : Nat) : Int), .int .i64 ((k : Nat) : Int), u0_9, u0_10, u0_11, u0_12, u0_13, u0_14, u0_15, u0_16, u0_17, u0_18].toArray, []⟩ ∧ (am0 = n - k) ∧ (k ≤ n) ∧ (∀ j z, j < k → ps[j]? = some z → q z = false) ∧ (Below w.heap.size w wl0)) (n - 0) ?_ ?_
  · exact ⟨0, _, _, _, _, _, _, _, _, _, _, _, rfl, rfl, (Nat.zero_le _), (fun j z hj => absurd hj (by omega)), (Below.refl _ _)⟩
  rintro am0 aa0 wl0 K4 h4 ⟨k, u0_5, u0_9, u0_10, u0_11, u0_12, u0_13, u0_14, u0_15, u0_16, u0_17, u0_18, rfl, rfl, hk, hno, c1⟩
  refine wp_seq_k (fun K5 h5 => ?_)
  refine region_quiet [(0, false)] rfl ?_
  by_cases q2 : (((k : Nat) : Int) : Int) < (((n : Nat) : Int) : Int)
  · refine sq (v := .bool true) rfl (r_lss rfl rfl rfl (decide_eq_true q2)) rfl rfl rfl ?_
    refine sch_end ?_
    simp only [List.set_cons_zero, List.set_cons_succ]
    refine h5 _ _ ?_
    refine wp_seq_k (fun K6 h6 => ?_)
    refine wp_cond_true rfl ?_
    refine wp_skip ?_
    refine h6 _ _ ?_
    refine wp_seq_k (fun K7 h7 => ?_)
    refine wp_block ?_
    refine wp_seq_k (fun K8 h8 => ?_)
    refine region_quiet [(0, false), (1, false)] rfl ?_
    refine sq (v := .int .i64 ((k : Nat) : Int)) rfl (r_move rfl rfl) rfl rfl rfl ?_
    refine sq (v := .int .i64 ((k : Nat) : Int)) rfl (r_assign rfl rfl) rfl rfl rfl ?_
    refine sch_end ?_
    simp only [List.set_cons_zero, List.set_cons_succ]
    refine h8 _ _ ?_
    refine wp_seq_k (fun K9 h9 => ?_)
    refine region_plain (row := none) [(0, false), (1, false), (2, false), (3, false), (4, false), (5, true)] rfl ?_
    have s3 := SG.self wl0 none
    refine sq (v := .func (.func g) #[] lb) rfl (r_move rfl rfl) rfl rfl rfl ?_
    refine sq (v := .slice A n c) rfl (r_move rfl rfl) rfl rfl rfl ?_
    refine sq (v := .int .i64 ((k : Nat) : Int)) rfl (r_move rfl rfl) rfl rfl rfl ?_
    obtain ⟨x4, hx5⟩ := get_of (zs := ps) (k := k) (by have := hl; omega)
    obtain ⟨b6, o7, hA8, hb9, hc10, hc11, hc12, hc13⟩ := Rd.elPipe ha hx5
    refine sq (v := .pointer (some ⟨b6, o7 + k * 4, none⟩)) rfl (r_idx (k := k) rfl rfl hA8 rfl (by kernel_rfl) (by have := hl; omega)) rfl rfl rfl ?_
    refine sq (v := .agg #[.int .i64 x4.id, .int .i64 x4.fr, .int .i64 x4.to, .int .i64 x4.sz]) rfl (r_load4 rfl rfl (by kernel_rfl) (by kernel_rfl) (sgS (later c1 hc10) (by simp)) (sgS (later c1 hc11) (by simp)) (sgS (later c1 hc12) (by simp)) (sgS (later c1 hc13) (by simp))) rfl rfl rfl ?_
    simp only [List.set_cons_zero, List.set_cons_succ]
    refine scv (vs := [.agg #[.int .i64 x4.id, .int .i64 x4.fr, .int .i64 x4.to, .int .i64 x4.sz]]) rfl rfl rfl rfl he rfl rfl (HG _ x4 ((SG.belowR c1 s3 (fun kq e => by cases e)))) ?_
    rintro e w15 ⟨rfl, b14⟩
    have s16 := SG.of_below s3 b14
    refine ⟨_, rfl, s16, ?_⟩
    rcases Bool.eq_false_or_eq_true (q x4) with q17 | q17
    · rw [q17]
      refine sch_end ?_
      simp only [List.set_cons_zero, List.set_cons_succ]
      have c18 := (SG.belowR c1 s16 (fun kq e => by cases e))
      refine h9 _ _ ?_
      refine wp_cond_true rfl ?_
      refine wp_seq_k (fun K10 h10 => ?_)
      refine region_quiet [(0, false), (1, false)] rfl ?_
      refine sq (v := .int .i64 ((k : Nat) : Int)) rfl (r_move rfl rfl) rfl rfl rfl ?_
      refine sq (v := .int .i64 ((k : Nat) : Int)) rfl (r_assign rfl rfl) rfl rfl rfl ?_
      refine sch_end ?_
      simp only [List.set_cons_zero, List.set_cons_succ]
      refine h10 _ _ ?_
      refine wp_ret ?_
      try simp only [Exit.then, Exit.inBlock]
      refine ret1 rfl rfl ?_
      exact ⟨by rw [idxP_at hno hx5 q17]; rfl, c18⟩
    · rw [q17]
      refine sch_end ?_
      simp only [List.set_cons_zero, List.set_cons_succ]
      have c19 := (SG.belowR c1 s16 (fun kq e => by cases e))
      refine h9 _ _ ?_
      refine wp_cond_false rfl ?_
      refine wp_skip ?_
      refine h7 _ _ ?_
      refine region_quiet [(0, false), (1, false)] rfl ?_
      refine sq (v := .int .i64 ((k + 1 : Nat) : Int)) rfl (r_add (z := ((k + 1 : Nat) : Int)) rfl rfl rfl (by omega) (by omega)) rfl rfl rfl ?_
      refine sq (v := .int .i64 ((k + 1 : Nat) : Int)) rfl (r_move rfl rfl) rfl rfl rfl ?_
      refine sch_end ?_
      simp only [List.set_cons_zero, List.set_cons_succ]
      exact h4 _ _ _ (by omega : (n - (k + 1)) < _) ⟨k + 1, _, _, _, _, _, _, _, _, _, _, _, rfl, rfl, (by omega), (upto_succ (Q := fun z => q z = false) hno hx5 q17), c19⟩
  · refine sq (v := .bool false) rfl (r_lss rfl rfl rfl (decide_eq_false q2)) rfl rfl rfl ?_
    refine sch_end ?_
    simp only [List.set_cons_zero, List.set_cons_succ]
    refine h5 _ _ ?_
    refine wp_seq_k (fun K11 h11 => ?_)
    refine wp_cond_false rfl ?_
    refine wp_exit ?_
    refine h2 _ _ ?_
    refine wp_seq_k (fun K12 h12 => ?_)
    refine region_quiet [(0, false)] rfl ?_
    refine sq (v := .int .i64 (-1)) rfl (r_assign rfl rfl) rfl rfl rfl ?_
    refine sch_end ?_
    simp only [List.set_cons_zero, List.set_cons_succ]
    refine h12 _ _ ?_
    refine wp_ret ?_
    try simp only [Exit.then]
    refine ret1 rfl rfl ?_
    exact ⟨by rw [idxP_none (fun j z hj => hno j z (by omega))]; rfl, c1⟩

set_option maxRecDepth 100000 in
set_option maxHeartbeats 1000000 in
theorem pipeIndex_any (m : Int) (A : Option Addr) (n c : Nat) (ps : List Pp) (v : Int) (w : World) (ha : Rd w 4 A n (pipesV ps)) (hn : n ≤ 1048576) :
    Calls Try.prog 56 #[.agg #[.int .i64 m, .slice A n c], .int .i64 v] w fun e w' => e = .returned (.int .i64 (findL ps v)) ∧ Below w.heap.size w w' := by
  have hl := rd_pipes_len ha
  go_enter Try.func56, Try.ntmps56
  refine wp_seq_k (fun K1 h1 => ?_)
  refine region_plain (row := none) [(0, true), (1, true), (2, false)] rfl ?_
  have s1 := SG.self w none
  refine sn (fun b => .pointer (some ⟨b, 0, none⟩)) #[.int .i64 m, .slice A n c] 31 s1 rfl rfl rfl (fun _ => by kernel_rfl) (fun b2 w3 hb4 k5 x6 s7 => ?_)
  have lo8 : w.heap.size ≤ b2 := by have := ((SG.belowR (Below.refl _ _) s1 (fun kq e => by cases e))).size; omega
  refine sn (fun b => .pointer (some ⟨b, 0, none⟩)) #[.int .i64 v] 3 s7 rfl rfl rfl (fun _ => by kernel_rfl) (fun b9 w10 hb11 k12 x13 s14 => ?_)
  have lo15 : w.heap.size ≤ b9 := by have := ((SG.belowR (Below.refl _ _) s7 (fun kq e => by cases e))).size; omega
  have ne16 : b2 ≠ b9 := by have := blk_lt x6; omega
  have x6 := (k12.block _ (blk_lt x6)).trans x6
  refine sq (v := .int .i64 0) rfl (r_assign rfl rfl) rfl rfl rfl ?_
  refine sch_end ?_
  simp only [List.set_cons_zero, List.set_cons_succ]
  have c17 := (SG.belowR (Below.refl _ _) s14 (fun kq e => by cases e))
  refine h1 _ _ ?_
  refine wp_seq_k (fun K2 h2 => ?_)
  refine region_plain (row := none) [(0, false), (1, false), (2, false), (3, true), (4, false)] rfl ?_
  have s18 := SG.self w10 none
  refine sq (v := .pointer (some ⟨b2, 1, none⟩)) rfl (r_field (k := 1) rfl rfl (by kernel_rfl)) rfl rfl rfl ?_
  refine sq (v := .slice A n c) rfl (r_load rfl rfl (by kernel_rfl) (sgS (blk_cell (j := 1) x6 rfl) (by simp))) rfl rfl rfl ?_
  refine sq (v := .func (.func 71) #[] #[.pointer (some ⟨b9, 0, none⟩)]) rfl (r_makeFunc (vs := [.pointer (some ⟨b9, 0, none⟩)]) rfl rfl) rfl rfl rfl ?_
  refine sc (vs := [.slice A n c, .func (.func 71) #[] #[.pointer (some ⟨b9, 0, none⟩)]]) rfl rfl rfl (by kernel_rfl) rfl rfl (idxP_any A n c ps 71 #[.pointer (some ⟨b9, 0, none⟩)] (fun p => decide (p.id = v)) _ (Rd.kept ha (SG.belowR c17 s18 (fun kq e => by cases e))) (by omega) (by kernel_rfl) (fun W p hW => pipeIndexF_any p v b9 W ((hW.block _ (blk_lt x13)).trans x13))) ?_
  rintro e w20 ⟨rfl, b19⟩
  have s21 := SG.of_below s18 b19
  refine ⟨_, rfl, s21, ?_⟩
  refine sq (v := .int .i64 (idxP (fun p => decide (p.id = v)) ps)) rfl (r_assign rfl rfl) rfl rfl rfl ?_
  simp only [List.set_cons_zero, List.set_cons_succ]
  refine sch_end ?_
  have x6 := SG.blk s21 x6 (by simp)
  have x13 := SG.blk s21 x13 (by simp)
  have c22 := (SG.belowR c17 s21 (fun kq e => by cases e))
  refine h2 _ _ ?_
  refine wp_ret ?_
  try simp only [Exit.then]
  refine ret1 rfl rfl ?_
  exact ⟨by rw [idxP_find]; rfl, c22⟩

end Go.Proofs.Ytdlcldaogcbnlaa
