/- The walk of the law FnExactWorstBurst. -/
import Derived.Test.YtnfmdkbelbppdaaWorst
import Derived.Test.YtnfmdkbelbppdaaNetH
import Derived.Test.YtnfmdkbelbppdaaValves
import Derived.Test.YtnfmdkbelbppdaaIntsTo
import Derived.Test.YtnfmdkbelbppdaaRows
import Derived.Deep.RegionHeld3
namespace Go.Proofs.Ytnfmdkbelbppdaa
open Go.RowKit
set_option linter.unusedVariables false

set_option maxRecDepth 100000 in
set_option maxHeartbeats 2000000 in
theorem w_FnExactWorstBurst (m0 : Int) (x0 : Option Addr) (n0 p0 : Nat) (a0 : List Pp) (x1 : Option Addr) (n1 p1 : Nat) (a1 : List Vv) (a2 : Int) (_k2 : wf64 a2) (x3 : Option Addr) (n3 p3 : Nat) (a3 : List Int) (w : World) (H0 : wf64 m0 ∧ a0.length = n0 ∧ Rd w 4 x0 n0 (pipesV a0) ∧ n0 ≤ maxLen ∧ ∀ p ∈ a0, p.wf) (H1 : a1.length = n1 ∧ Rd w 4 x1 n1 (valvesV a1) ∧ n1 ≤ maxLen ∧ ∀ p ∈ a1, p.wf) (H3 : a3.length = n3 ∧ Rd w 1 x3 n3 (intsV a3) ∧ n3 ≤ maxLen ∧ ∀ n ∈ a3, wf64 n) :
    Calls Try.prog 9 #[.agg #[.int .i64 m0, .slice x0 n0 p0], .slice x1 n1 p1, .int .i64 a2, .slice x3 n3 p3] w fun e w' => e = .returned (.bool true) ∧ Below w.heap.size w w' := by
  obtain ⟨_, _, h0, z0, _⟩ := H0
  unfold maxLen at z0
  obtain ⟨_, h1, z1, _⟩ := H1
  unfold maxLen at z1
  obtain ⟨_, h3, z3, _⟩ := H3
  unfold maxLen at z3
  by_cases e3 : n3 ≤ 1048576
  rotate_left
  · go_enter Try.func9, Try.ntmps9
    go_wp2_with fail
    all_goals go_ret
    all_goals exact ⟨rfl, (below_a1 _ _)⟩
  by_cases e0 : (n0 : Int) ≤ 1048576
  rotate_left
  · have E0 := Lib.hid (szL_neg e0)
    go_enter Try.func9, Try.ntmps9
    go_wp2_with fail
    refine (szNetwork_any m0 x0 n0 p0 a0 (1048576) _ (h0.kept (below_a1 _ _)) (by omega) (by omega) (by omega)).mono ?_
    rintro e w1 ⟨rfl, b1⟩
    have c1 : Below w.heap.size w w1 := below_step (below_a1 _ _) b1 (by simp <;> omega)
    have f1 : w1.cell? ⟨w.heap.size, 0, none⟩ = some (.int .i64 m0) := (keeps b1 _ _ (by simp <;> omega)).trans (by simp [go_sem])
    have f2 : w1.cell? ⟨w.heap.size, 1, none⟩ = some (.slice x0 n0 p0) := (keeps b1 _ _ (by simp <;> omega)).trans (by simp [go_sem])
    have f1q : w.heap.size < w1.heap.size := World.block_lt_of_cell? _ _ f1
    have s1 : w.heap.size + 1 ≤ w1.heap.size := by have := b1.size; simp at this; omega
    have t1 : Below w.heap.size w w1 := c1
    rw [E0.out]
    go_wp2_with fail
    all_goals go_ret
    all_goals exact ⟨rfl, t1⟩
  by_cases e1 : (n1 : Int) ≤ 1048576 - (n0 : Int)
  rotate_left
  · have E0 := Lib.hid (szL_pos e0)
    have E1 := Lib.hid (szL_neg e1)
    go_enter Try.func9, Try.ntmps9
    go_wp2_with fail
    refine (szNetwork_any m0 x0 n0 p0 a0 (1048576) _ (h0.kept (below_a1 _ _)) (by omega) (by omega) (by omega)).mono ?_
    rintro e w1 ⟨rfl, b1⟩
    have c1 : Below w.heap.size w w1 := below_step (below_a1 _ _) b1 (by simp <;> omega)
    have f3 : w1.cell? ⟨w.heap.size, 0, none⟩ = some (.int .i64 m0) := (keeps b1 _ _ (by simp <;> omega)).trans (by simp [go_sem])
    have f4 : w1.cell? ⟨w.heap.size, 1, none⟩ = some (.slice x0 n0 p0) := (keeps b1 _ _ (by simp <;> omega)).trans (by simp [go_sem])
    have f3q : w.heap.size < w1.heap.size := World.block_lt_of_cell? _ _ f3
    have s1 : w.heap.size + 1 ≤ w1.heap.size := by have := b1.size; simp at this; omega
    have t1 : Below w.heap.size w w1 := c1
    rw [E0.out]
    go_wp2_with fail
    refine (szValveS_any x1 n1 p1 (1048576 - (n0 : Int)) _ (by omega) (by omega) (by omega)).mono ?_
    rintro e w' ⟨rfl, rfl⟩
    rw [E1.out]
    go_wp2_with fail
    all_goals go_ret
    all_goals exact ⟨rfl, t1⟩
  have cs := fun (A0 : Option Addr) (d0 : Nat) (A1 : Option Addr) (d1 : Nat) (A3 : Option Addr) (d3 : Nat) (W : World) (H0 : Rd W 4 A0 n0 (pipesV a0)) (H1 : Rd W 4 A1 n1 (valvesV a1)) (H3 : Rd W 1 A3 n3 (intsV a3)) (F0 : Fm A0 n0 d0) (F1 : Fm A1 n1 d1) (F3 : Fm A3 n3 d3) => WorstBurst_spec m0 A0 n0 d0 a0 A1 n1 d1 a1 a2 A3 n3 d3 a3 W H0 H1 H3 (by omega) (by omega) (by omega) F0 F1 F3
  have ci := fun (A0 : Option Addr) (d0 : Nat) (A1 : Option Addr) (d1 : Nat) (A3 : Option Addr) (d3 : Nat) (W : World) (H0 : Rd W 4 A0 n0 (pipesV a0)) (H1 : Rd W 4 A1 n1 (valvesV a1)) (H3 : Rd W 1 A3 n3 (intsV a3)) (F0 : Fm A0 n0 d0) (F1 : Fm A1 n1 d1) (F3 : Fm A3 n3 d3) => WorstBurst_impl m0 A0 n0 d0 a0 A1 n1 d1 a1 a2 A3 n3 d3 a3 W H0 H1 H3 (by omega) (by omega) (by omega) F0 F1 F3
  generalize WorstBurst_v0 m0 a0 a1 a2 a3 = v0 at cs ci
  generalize WorstBurst_v1 m0 a0 a1 a2 a3 = v1 at cs ci
  generalize WorstBurst_v2 m0 a0 a1 a2 a3 = v2 at cs ci
  have Cs := Lib.hid cs
  have Ci := Lib.hid ci
  clear cs ci
  have E0 := Lib.hid (szL_pos e0)
  have E1 := Lib.hid (szL_pos e1)
  go_enter Try.func9, Try.ntmps9
  go_wp2_with fail
  refine (szNetwork_any m0 x0 n0 p0 a0 (1048576) _ (h0.kept (below_a1 _ _)) (by omega) (by omega) (by omega)).mono ?_
  rintro e w1 ⟨rfl, b1⟩
  have c1 : Below w.heap.size w w1 := below_step (below_a1 _ _) b1 (by simp <;> omega)
  have f5 : w1.cell? ⟨w.heap.size, 0, none⟩ = some (.int .i64 m0) := (keeps b1 _ _ (by simp <;> omega)).trans (by simp [go_sem])
  have f6 : w1.cell? ⟨w.heap.size, 1, none⟩ = some (.slice x0 n0 p0) := (keeps b1 _ _ (by simp <;> omega)).trans (by simp [go_sem])
  have f5q : w.heap.size < w1.heap.size := World.block_lt_of_cell? _ _ f5
  have s1 : w.heap.size + 1 ≤ w1.heap.size := by have := b1.size; simp at this; omega
  have t1 : Below w.heap.size w w1 := c1
  rw [E0.out]
  go_wp2_with fail
  refine (szValveS_any x1 n1 p1 (1048576 - (n0 : Int)) _ (by omega) (by omega) (by omega)).mono ?_
  rintro e w' ⟨rfl, rfl⟩
  rw [E1.out]
  go_wp2_with fail
  refine (toNetwork_any m0 x0 n0 p0 a0 _ (h0.kept t1) (by omega)).mono ?_
  rintro e w2 ⟨A2, d2, rfl, o2, b2⟩
  have c2 : Below w1.heap.size w1 w2 := b2
  have f7 : w2.cell? ⟨w.heap.size, 0, none⟩ = some (.int .i64 m0) := later c2 f5
  have f8 : w2.cell? ⟨w.heap.size, 1, none⟩ = some (.slice x0 n0 p0) := later c2 f6
  clear f5 f5q f6
  have f7q : w.heap.size < w2.heap.size := World.block_lt_of_cell? _ _ f7
  have s2 := c2.size
  have t2 : Below w.heap.size w w2 := also t1 c2
  have o2b := own_base (base' := w1.heap.size) o2 (by simp <;> omega)
  have o2l := Lib.hid (fun j h => World.ownsRow.lt o2b j h)
  have o2h := Lib.hid o2b
  clear o2 o2b
  go_wp2_with fail
  refine (toValveS_any x1 n1 p1 a1 _ (h1.kept t2) (by omega)).mono ?_
  rintro e w3 ⟨A3, d3, rfl, o3, b3⟩
  have c3 : Below w2.heap.size w2 w3 := b3
  have f9 : w3.cell? ⟨w.heap.size, 0, none⟩ = some (.int .i64 m0) := later c3 f7
  have f10 : w3.cell? ⟨w.heap.size, 1, none⟩ = some (.slice x0 n0 p0) := later c3 f8
  clear f7 f7q f8
  have f9q : w.heap.size < w3.heap.size := World.block_lt_of_cell? _ _ f9
  have s3 := c3.size
  have o2h' := Lib.hid (own_kept o2h.out c3)
  clear o2h
  have t3 : Below w.heap.size w w3 := also t2 c3
  have o3b := own_base (base' := w2.heap.size) o3 (by simp <;> omega)
  have o3l := Lib.hid (fun j h => World.ownsRow.lt o3b j h)
  have o3h := Lib.hid o3b
  clear o3 o3b
  go_wp2_with fail
  refine (toIntS_any x3 n3 p3 a3 _ (h3.kept t3) (by omega)).mono ?_
  rintro e w4 ⟨A4, d4, rfl, o4, b4⟩
  have c4 : Below w3.heap.size w3 w4 := b4
  have f11 : w4.cell? ⟨w.heap.size, 0, none⟩ = some (.int .i64 m0) := later c4 f9
  have f12 : w4.cell? ⟨w.heap.size, 1, none⟩ = some (.slice x0 n0 p0) := later c4 f10
  clear f9 f9q f10
  have f11q : w.heap.size < w4.heap.size := World.block_lt_of_cell? _ _ f11
  have s4 := c4.size
  have o2h'' := Lib.hid (own_kept o2h'.out c4)
  clear o2h'
  have o3h' := Lib.hid (own_kept o3h.out c4)
  clear o3h
  have t4 : Below w.heap.size w w4 := also t3 c4
  have o4b := own_base (base' := w3.heap.size) o4 (by simp <;> omega)
  have o4l := Lib.hid (fun j h => World.ownsRow.lt o4b j h)
  have o4h := Lib.hid o4b
  clear o4 o4b
  go_wp2_with fail
  refine (Cs.out A2 d2 A3 d3 A4 d4 _ (own_rd o2h''.out) (own_rd o3h'.out) (own_rd o4h.out) (own_fm o2h''.out) (own_fm o3h'.out) (own_fm o4h.out)).mono ?_
  rintro e w5 ⟨rfl, b5⟩
  have c5 : Below w4.heap.size w4 w5 := b5
  have f13 : w5.cell? ⟨w.heap.size, 0, none⟩ = some (.int .i64 m0) := later c5 f11
  have f14 : w5.cell? ⟨w.heap.size, 1, none⟩ = some (.slice x0 n0 p0) := later c5 f12
  clear f11 f11q f12
  have f13q : w.heap.size < w5.heap.size := World.block_lt_of_cell? _ _ f13
  have s5 := c5.size
  have o2h''' := Lib.hid (own_kept o2h''.out c5)
  clear o2h''
  have o3h'' := Lib.hid (own_kept o3h'.out c5)
  clear o3h'
  have o4h' := Lib.hid (own_kept o4h.out c5)
  clear o4h
  have t5 : Below w.heap.size w w5 := also t4 c5
  go_wp2_with fail
  refine (toNetwork_any m0 x0 n0 p0 a0 _ (h0.kept t5) (by omega)).mono ?_
  rintro e w6 ⟨A6, d6, rfl, o6, b6⟩
  have c6 : Below w5.heap.size w5 w6 := b6
  have f15 : w6.cell? ⟨w.heap.size, 0, none⟩ = some (.int .i64 m0) := later c6 f13
  have f16 : w6.cell? ⟨w.heap.size, 1, none⟩ = some (.slice x0 n0 p0) := later c6 f14
  clear f13 f13q f14
  have f15q : w.heap.size < w6.heap.size := World.block_lt_of_cell? _ _ f15
  have s6 := c6.size
  have o2h'''' := Lib.hid (own_kept o2h'''.out c6)
  clear o2h'''
  have o3h''' := Lib.hid (own_kept o3h''.out c6)
  clear o3h''
  have o4h'' := Lib.hid (own_kept o4h'.out c6)
  clear o4h'
  have t6 : Below w.heap.size w w6 := also t5 c6
  have o6b := own_base (base' := w5.heap.size) o6 (by simp <;> omega)
  have o6l := Lib.hid (fun j h => World.ownsRow.lt o6b j h)
  have o6h := Lib.hid o6b
  clear o6 o6b
  go_wp2_with fail
  refine (toValveS_any x1 n1 p1 a1 _ (h1.kept (below_step t6 (below_a1 _ _) (Nat.le_refl _))) (by omega)).mono ?_
  rintro e w7 ⟨A7, d7, rfl, o7, b7⟩
  have c7 : Below w6.heap.size w6 w7 := below_step (below_a1 _ _) b7 (by simp <;> omega)
  have f17 : w7.cell? ⟨w.heap.size, 0, none⟩ = some (.int .i64 m0) := later c7 f15
  have f18 : w7.cell? ⟨w.heap.size, 1, none⟩ = some (.slice x0 n0 p0) := later c7 f16
  have f19 : w7.cell? ⟨w6.heap.size, 0, none⟩ = some (.int .i64 m0) := (keeps b7 _ _ (by simp <;> omega)).trans (by simp [go_sem])
  have f20 : w7.cell? ⟨w6.heap.size, 1, none⟩ = some (.slice A6 n0 d6) := (keeps b7 _ _ (by simp <;> omega)).trans (by simp [go_sem])
  clear f15 f15q f16
  have f17q : w.heap.size < w7.heap.size := World.block_lt_of_cell? _ _ f17
  have f19q : w6.heap.size < w7.heap.size := World.block_lt_of_cell? _ _ f19
  have s7 : w6.heap.size + 1 ≤ w7.heap.size := by have := b7.size; simp at this; omega
  have o2h''''' := Lib.hid (own_kept o2h''''.out c7)
  clear o2h''''
  have o3h'''' := Lib.hid (own_kept o3h'''.out c7)
  clear o3h'''
  have o4h''' := Lib.hid (own_kept o4h''.out c7)
  clear o4h''
  have o6h' := Lib.hid (own_kept o6h.out c7)
  clear o6h
  have t7 : Below w.heap.size w w7 := also t6 c7
  have o7b := own_base (base' := w6.heap.size + 1) o7 (by simp <;> omega)
  have o7l := Lib.hid (fun j h => World.ownsRow.lt o7b j h)
  have o7h := Lib.hid o7b
  clear o7 o7b
  go_wp2_with fail
  refine (toIntS_any x3 n3 p3 a3 _ (h3.kept t7) (by omega)).mono ?_
  rintro e w8 ⟨A8, d8, rfl, o8, b8⟩
  have c8 : Below w7.heap.size w7 w8 := b8
  have f21 : w8.cell? ⟨w.heap.size, 0, none⟩ = some (.int .i64 m0) := later c8 f17
  have f22 : w8.cell? ⟨w.heap.size, 1, none⟩ = some (.slice x0 n0 p0) := later c8 f18
  have f23 : w8.cell? ⟨w6.heap.size, 0, none⟩ = some (.int .i64 m0) := later c8 f19
  have f24 : w8.cell? ⟨w6.heap.size, 1, none⟩ = some (.slice A6 n0 d6) := later c8 f20
  clear f17 f17q f18 f19 f19q f20
  have f21q : w.heap.size < w8.heap.size := World.block_lt_of_cell? _ _ f21
  have f23q : w6.heap.size < w8.heap.size := World.block_lt_of_cell? _ _ f23
  have s8 := c8.size
  have o2h'''''' := Lib.hid (own_kept o2h'''''.out c8)
  clear o2h'''''
  have o3h''''' := Lib.hid (own_kept o3h''''.out c8)
  clear o3h''''
  have o4h'''' := Lib.hid (own_kept o4h'''.out c8)
  clear o4h'''
  have o6h'' := Lib.hid (own_kept o6h'.out c8)
  clear o6h'
  have o7h' := Lib.hid (own_kept o7h.out c8)
  clear o7h
  have t8 : Below w.heap.size w w8 := also t7 c8
  have o8b := own_base (base' := w7.heap.size) o8 (by simp <;> omega)
  have o8l := Lib.hid (fun j h => World.ownsRow.lt o8b j h)
  have o8h := Lib.hid o8b
  clear o8 o8b
  go_wp2_with fail
  refine (Ci.out A6 d6 A7 d7 A8 d8 _ (own_rd o6h''.out) (own_rd o7h'.out) (own_rd o8h.out) (own_fm o6h''.out) (own_fm o7h'.out) (own_fm o8h.out)).mono ?_
  rintro e w9 ⟨rfl, b9⟩
  have c9 : Below w8.heap.size w8 w9 := b9
  have f25 : w9.cell? ⟨w.heap.size, 0, none⟩ = some (.int .i64 m0) := later c9 f21
  have f26 : w9.cell? ⟨w.heap.size, 1, none⟩ = some (.slice x0 n0 p0) := later c9 f22
  have f27 : w9.cell? ⟨w6.heap.size, 0, none⟩ = some (.int .i64 m0) := later c9 f23
  have f28 : w9.cell? ⟨w6.heap.size, 1, none⟩ = some (.slice A6 n0 d6) := later c9 f24
  clear f21 f21q f22 f23 f23q f24
  have f25q : w.heap.size < w9.heap.size := World.block_lt_of_cell? _ _ f25
  have f27q : w6.heap.size < w9.heap.size := World.block_lt_of_cell? _ _ f27
  have s9 := c9.size
  have o2h''''''' := Lib.hid (own_kept o2h''''''.out c9)
  clear o2h''''''
  have o3h'''''' := Lib.hid (own_kept o3h'''''.out c9)
  clear o3h'''''
  have o4h''''' := Lib.hid (own_kept o4h''''.out c9)
  clear o4h''''
  have o6h''' := Lib.hid (own_kept o6h''.out c9)
  clear o6h''
  have o7h'' := Lib.hid (own_kept o7h'.out c9)
  clear o7h'
  have o8h' := Lib.hid (own_kept o8h.out c9)
  clear o8h
  have t9 : Below w.heap.size w w9 := also t8 c9
  go_wp2_with fail
  have Hx := Lib.hid (fun W' (hW : Below w9.heap.size w9 W') => toNetwork_any m0 x0 n0 p0 a0 W' (h0.kept (also t9 hW)) (by omega))
  have Hr := Lib.hid (own_rd o6h'''.out)
  go_region_held3 (fun w' => w'.cell? ⟨w6.heap.size, 0, none⟩ = some (.int .i64 m0) ∧ w'.cell? ⟨w6.heap.size, 1, none⟩ = some (.slice A6 n0 d6) ∧ w'.cell? ⟨w.heap.size, 0, none⟩ = some (.int .i64 m0) ∧ w'.cell? ⟨w.heap.size, 1, none⟩ = some (.slice x0 n0 p0) ∧ Below w9.heap.size w9 w') (first | (go_split_ands; refine held4 f27 f28 f25 f26 ?_; first | exact (Below.refl _ _).drew | exact also (by assumption) (by assumption) | exact below_drewN (by assumption) _)) (first | (go_at_call 16; (with_reducible refine (Hx.out _ (by first | exact (Below.refl _ _).drew | (go_split_ands; assumption))).mono ?_); rintro e w10 ⟨A10, d10, rfl, o10, b10⟩; have O10 := Lib.hid (own_rd o10); clear o10) | (go_at_call 20; refine (eqNetwork_below m0 A6 A10 n0 d6 d10 a0 _ (Hr.out.kept (by go_split_ands; assumption)) O10.out (by omega)).mono ?_; rintro e w10x ⟨rfl, b10x⟩))
  rename_i hS
  have b10y := hS.2.2.2.2
  clear hS Hx Hr
  have c10x : Below w9.heap.size w9 w10x := b10y
  have f29 : w10x.cell? ⟨w.heap.size, 0, none⟩ = some (.int .i64 m0) := later c10x f25
  have f30 : w10x.cell? ⟨w.heap.size, 1, none⟩ = some (.slice x0 n0 p0) := later c10x f26
  have f31 : w10x.cell? ⟨w6.heap.size, 0, none⟩ = some (.int .i64 m0) := later c10x f27
  have f32 : w10x.cell? ⟨w6.heap.size, 1, none⟩ = some (.slice A6 n0 d6) := later c10x f28
  clear f25 f25q f26 f27 f27q f28
  have f29q : w.heap.size < w10x.heap.size := World.block_lt_of_cell? _ _ f29
  have f31q : w6.heap.size < w10x.heap.size := World.block_lt_of_cell? _ _ f31
  have s10x := c10x.size
  have o2h'''''''' := Lib.hid (own_kept o2h'''''''.out c10x)
  clear o2h'''''''
  have o3h''''''' := Lib.hid (own_kept o3h''''''.out c10x)
  clear o3h''''''
  have o4h'''''' := Lib.hid (own_kept o4h'''''.out c10x)
  clear o4h'''''
  have o6h'''' := Lib.hid (own_kept o6h'''.out c10x)
  clear o6h'''
  have o7h''' := Lib.hid (own_kept o7h''.out c10x)
  clear o7h''
  have o8h'' := Lib.hid (own_kept o8h'.out c10x)
  clear o8h'
  have t10x : Below w.heap.size w w10x := also t9 c10x
  go_wp2_with fail
  refine (toValveS_any x1 n1 p1 a1 _ (h1.kept t10x) (by omega)).mono ?_
  rintro e w11 ⟨A11, d11, rfl, o11, b11⟩
  have c11 : Below w10x.heap.size w10x w11 := b11
  have f33 : w11.cell? ⟨w.heap.size, 0, none⟩ = some (.int .i64 m0) := later c11 f29
  have f34 : w11.cell? ⟨w.heap.size, 1, none⟩ = some (.slice x0 n0 p0) := later c11 f30
  have f35 : w11.cell? ⟨w6.heap.size, 0, none⟩ = some (.int .i64 m0) := later c11 f31
  have f36 : w11.cell? ⟨w6.heap.size, 1, none⟩ = some (.slice A6 n0 d6) := later c11 f32
  clear f29 f29q f30 f31 f31q f32
  have f33q : w.heap.size < w11.heap.size := World.block_lt_of_cell? _ _ f33
  have f35q : w6.heap.size < w11.heap.size := World.block_lt_of_cell? _ _ f35
  have s11 := c11.size
  have o2h''''''''' := Lib.hid (own_kept o2h''''''''.out c11)
  clear o2h''''''''
  have o3h'''''''' := Lib.hid (own_kept o3h'''''''.out c11)
  clear o3h'''''''
  have o4h''''''' := Lib.hid (own_kept o4h''''''.out c11)
  clear o4h''''''
  have o6h''''' := Lib.hid (own_kept o6h''''.out c11)
  clear o6h''''
  have o7h'''' := Lib.hid (own_kept o7h'''.out c11)
  clear o7h'''
  have o8h''' := Lib.hid (own_kept o8h''.out c11)
  clear o8h''
  have t11 : Below w.heap.size w w11 := also t10x c11
  have o11b := own_base (base' := w10x.heap.size) o11 (by simp <;> omega)
  have o11l := Lib.hid (fun j h => World.ownsRow.lt o11b j h)
  have o11h := Lib.hid o11b
  clear o11 o11b
  go_wp2_with fail
  refine (eqValveS_below A7 A11 n1 d7 d11 a1 _ (own_rd o7h''''.out) (own_rd o11h.out) (by omega)).mono ?_
  rintro e w12 ⟨rfl, b12⟩
  have c12 : Below w11.heap.size w11 w12 := b12
  have f37 : w12.cell? ⟨w.heap.size, 0, none⟩ = some (.int .i64 m0) := later c12 f33
  have f38 : w12.cell? ⟨w.heap.size, 1, none⟩ = some (.slice x0 n0 p0) := later c12 f34
  have f39 : w12.cell? ⟨w6.heap.size, 0, none⟩ = some (.int .i64 m0) := later c12 f35
  have f40 : w12.cell? ⟨w6.heap.size, 1, none⟩ = some (.slice A6 n0 d6) := later c12 f36
  clear f33 f33q f34 f35 f35q f36
  have f37q : w.heap.size < w12.heap.size := World.block_lt_of_cell? _ _ f37
  have f39q : w6.heap.size < w12.heap.size := World.block_lt_of_cell? _ _ f39
  have s12 := c12.size
  have o2h'''''''''' := Lib.hid (own_kept o2h'''''''''.out c12)
  clear o2h'''''''''
  have o3h''''''''' := Lib.hid (own_kept o3h''''''''.out c12)
  clear o3h''''''''
  have o4h'''''''' := Lib.hid (own_kept o4h'''''''.out c12)
  clear o4h'''''''
  have o6h'''''' := Lib.hid (own_kept o6h'''''.out c12)
  clear o6h'''''
  have o7h''''' := Lib.hid (own_kept o7h''''.out c12)
  clear o7h''''
  have o8h'''' := Lib.hid (own_kept o8h'''.out c12)
  clear o8h'''
  have o11h' := Lib.hid (own_kept o11h.out c12)
  clear o11h
  have t12 : Below w.heap.size w w12 := also t11 c12
  go_wp2_with fail
  refine (toIntS_any x3 n3 p3 a3 _ (h3.kept t12) (by omega)).mono ?_
  rintro e w13 ⟨A13, d13, rfl, o13, b13⟩
  have c13 : Below w12.heap.size w12 w13 := b13
  have f41 : w13.cell? ⟨w.heap.size, 0, none⟩ = some (.int .i64 m0) := later c13 f37
  have f42 : w13.cell? ⟨w.heap.size, 1, none⟩ = some (.slice x0 n0 p0) := later c13 f38
  have f43 : w13.cell? ⟨w6.heap.size, 0, none⟩ = some (.int .i64 m0) := later c13 f39
  have f44 : w13.cell? ⟨w6.heap.size, 1, none⟩ = some (.slice A6 n0 d6) := later c13 f40
  clear f37 f37q f38 f39 f39q f40
  have f41q : w.heap.size < w13.heap.size := World.block_lt_of_cell? _ _ f41
  have f43q : w6.heap.size < w13.heap.size := World.block_lt_of_cell? _ _ f43
  have s13 := c13.size
  have o2h''''''''''' := Lib.hid (own_kept o2h''''''''''.out c13)
  clear o2h''''''''''
  have o3h'''''''''' := Lib.hid (own_kept o3h'''''''''.out c13)
  clear o3h'''''''''
  have o4h''''''''' := Lib.hid (own_kept o4h''''''''.out c13)
  clear o4h''''''''
  have o6h''''''' := Lib.hid (own_kept o6h''''''.out c13)
  clear o6h''''''
  have o7h'''''' := Lib.hid (own_kept o7h'''''.out c13)
  clear o7h'''''
  have o8h''''' := Lib.hid (own_kept o8h''''.out c13)
  clear o8h''''
  have o11h'' := Lib.hid (own_kept o11h'.out c13)
  clear o11h'
  have t13 : Below w.heap.size w w13 := also t12 c13
  have o13b := own_base (base' := w12.heap.size) o13 (by simp <;> omega)
  have o13l := Lib.hid (fun j h => World.ownsRow.lt o13b j h)
  have o13h := Lib.hid o13b
  clear o13 o13b
  go_wp2_with fail
  refine (eqIntS_below A8 A13 n3 d8 d13 a3 _ (own_rd o8h'''''.out) (own_rd o13h.out) (by omega)).mono ?_
  rintro e w14 ⟨rfl, b14⟩
  have c14 : Below w13.heap.size w13 w14 := b14
  have f45 : w14.cell? ⟨w.heap.size, 0, none⟩ = some (.int .i64 m0) := later c14 f41
  have f46 : w14.cell? ⟨w.heap.size, 1, none⟩ = some (.slice x0 n0 p0) := later c14 f42
  have f47 : w14.cell? ⟨w6.heap.size, 0, none⟩ = some (.int .i64 m0) := later c14 f43
  have f48 : w14.cell? ⟨w6.heap.size, 1, none⟩ = some (.slice A6 n0 d6) := later c14 f44
  clear f41 f41q f42 f43 f43q f44
  have f45q : w.heap.size < w14.heap.size := World.block_lt_of_cell? _ _ f45
  have f47q : w6.heap.size < w14.heap.size := World.block_lt_of_cell? _ _ f47
  have s14 := c14.size
  have o2h'''''''''''' := Lib.hid (own_kept o2h'''''''''''.out c14)
  clear o2h'''''''''''
  have o3h''''''''''' := Lib.hid (own_kept o3h''''''''''.out c14)
  clear o3h''''''''''
  have o4h'''''''''' := Lib.hid (own_kept o4h'''''''''.out c14)
  clear o4h'''''''''
  have o6h'''''''' := Lib.hid (own_kept o6h'''''''.out c14)
  clear o6h'''''''
  have o7h''''''' := Lib.hid (own_kept o7h''''''.out c14)
  clear o7h''''''
  have o8h'''''' := Lib.hid (own_kept o8h'''''.out c14)
  clear o8h'''''
  have o11h''' := Lib.hid (own_kept o11h''.out c14)
  clear o11h''
  have o13h' := Lib.hid (own_kept o13h.out c14)
  clear o13h
  have t14 : Below w.heap.size w w14 := also t13 c14
  go_wp2_with fail
  all_goals go_ret
  all_goals exact ⟨rfl, t14⟩

end Go.Proofs.Ytnfmdkbelbppdaa
