/- The walk of the law FnExactGentlestPlan. -/
import Derived.Test.YtnfmdkbelbppdaaPlanC
import Derived.Test.YtnfmdkbelbppdaaNetH
import Derived.Test.YtnfmdkbelbppdaaValves
import Derived.Test.YtnfmdkbelbppdaaIntsTo
import Derived.Test.YtnfmdkbelbppdaaRows
import Derived.Deep.RegionHeld3
namespace Go.Proofs.Ytnfmdkbelbppdaa
open Go.RowKit
set_option linter.unusedVariables false

set_option maxRecDepth 100000 in
set_option maxHeartbeats 2000000 in
theorem w_FnExactGentlestPlan (m0 : Int) (x0 : Option Addr) (n0 p0 : Nat) (a0 : List Pp) (x1 : Option Addr) (n1 p1 : Nat) (a1 : List Vv) (a2 : Int) (_k2 : wf64 a2) (a3 : Int) (_k3 : wf64 a3) (x4 : Option Addr) (n4 p4 : Nat) (a4 : List Int) (w : World) (H0 : wf64 m0 ∧ a0.length = n0 ∧ Rd w 4 x0 n0 (pipesV a0) ∧ n0 ≤ maxLen ∧ ∀ p ∈ a0, p.wf) (H1 : a1.length = n1 ∧ Rd w 4 x1 n1 (valvesV a1) ∧ n1 ≤ maxLen ∧ ∀ p ∈ a1, p.wf) (H4 : a4.length = n4 ∧ Rd w 1 x4 n4 (intsV a4) ∧ n4 ≤ maxLen ∧ ∀ n ∈ a4, wf64 n) :
    Calls Try.prog 6 #[.agg #[.int .i64 m0, .slice x0 n0 p0], .slice x1 n1 p1, .int .i64 a2, .int .i64 a3, .slice x4 n4 p4] w fun e w' => e = .returned (.bool true) ∧ Below w.heap.size w w' := by
  obtain ⟨_, _, h0, z0, _⟩ := H0
  unfold maxLen at z0
  obtain ⟨_, h1, z1, _⟩ := H1
  unfold maxLen at z1
  obtain ⟨_, h4, z4, _⟩ := H4
  unfold maxLen at z4
  by_cases e4 : n4 ≤ 1048576
  rotate_left
  · go_enter Try.func6, Try.ntmps6
    go_wp2_with fail
    all_goals go_ret
    all_goals exact ⟨rfl, (below_a1 _ _)⟩
  by_cases e0 : (n0 : Int) ≤ 1048576
  rotate_left
  · have E0 := Lib.hid (szL_neg e0)
    go_enter Try.func6, Try.ntmps6
    go_wp2_with fail
    refine (szNetwork_any m0 x0 n0 p0 a0 (1048576) _ (h0.kept (below_a1 _ _)) (by omega) (by omega) (by omega)).mono ?_
    rintro e w1 ⟨rfl, b1⟩
    have c1 : Below w.heap.size w w1 := below_step (below_a1 _ _) b1 (by simp <;> omega)
    have f1 : w1.cell? ⟨w.heap.size, 0, none⟩ = some (.int .i64 m0) := (keeps b1 _ _ (by simp <;> omega)).trans (by simp [go_sem])
    have f2 : w1.cell? ⟨w.heap.size, 1, none⟩ = some (.slice x0 n0 p0) := (keeps b1 _ _ (by simp <;> omega)).trans (by simp [go_sem])
    have f1q : w.heap.size < w1.heap.size := World.block_lt_of_cell? _ _ f1
    have s1 : w.heap.size + 1 ≤ w1.heap.size := by have := b1.size; simp at this; omega
    have t1 : Below w.heap.size w w1 := c1
    rw [E0.out]
    go_wp2_with fail
    all_goals go_ret
    all_goals exact ⟨rfl, t1⟩
  by_cases e1 : (n1 : Int) ≤ 1048576 - (n0 : Int)
  rotate_left
  · have E0 := Lib.hid (szL_pos e0)
    have E1 := Lib.hid (szL_neg e1)
    go_enter Try.func6, Try.ntmps6
    go_wp2_with fail
    refine (szNetwork_any m0 x0 n0 p0 a0 (1048576) _ (h0.kept (below_a1 _ _)) (by omega) (by omega) (by omega)).mono ?_
    rintro e w1 ⟨rfl, b1⟩
    have c1 : Below w.heap.size w w1 := below_step (below_a1 _ _) b1 (by simp <;> omega)
    have f3 : w1.cell? ⟨w.heap.size, 0, none⟩ = some (.int .i64 m0) := (keeps b1 _ _ (by simp <;> omega)).trans (by simp [go_sem])
    have f4 : w1.cell? ⟨w.heap.size, 1, none⟩ = some (.slice x0 n0 p0) := (keeps b1 _ _ (by simp <;> omega)).trans (by simp [go_sem])
    have f3q : w.heap.size < w1.heap.size := World.block_lt_of_cell? _ _ f3
    have s1 : w.heap.size + 1 ≤ w1.heap.size := by have := b1.size; simp at this; omega
    have t1 : Below w.heap.size w w1 := c1
    rw [E0.out]
    go_wp2_with fail
    refine (szValveS_any x1 n1 p1 (1048576 - (n0 : Int)) _ (by omega) (by omega) (by omega)).mono ?_
    rintro e w' ⟨rfl, rfl⟩
    rw [E1.out]
    go_wp2_with fail
    all_goals go_ret
    all_goals exact ⟨rfl, t1⟩
  have cs := fun (A0 : Option Addr) (d0 : Nat) (A1 : Option Addr) (d1 : Nat) (A4 : Option Addr) (d4 : Nat) (W : World) (H0 : Rd W 4 A0 n0 (pipesV a0)) (H1 : Rd W 4 A1 n1 (valvesV a1)) (H4 : Rd W 1 A4 n4 (intsV a4)) (F0 : Fm A0 n0 d0) (F1 : Fm A1 n1 d1) (F4 : Fm A4 n4 d4) => GentlestPlan_spec m0 A0 n0 d0 a0 A1 n1 d1 a1 a2 a3 A4 n4 d4 a4 W H0 H1 H4 (by omega) (by omega) (by omega) F0 F1 F4
  have ci := fun (A0 : Option Addr) (d0 : Nat) (A1 : Option Addr) (d1 : Nat) (A4 : Option Addr) (d4 : Nat) (W : World) (H0 : Rd W 4 A0 n0 (pipesV a0)) (H1 : Rd W 4 A1 n1 (valvesV a1)) (H4 : Rd W 1 A4 n4 (intsV a4)) (F0 : Fm A0 n0 d0) (F1 : Fm A1 n1 d1) (F4 : Fm A4 n4 d4) => GentlestPlan_impl m0 A0 n0 d0 a0 A1 n1 d1 a1 a2 a3 A4 n4 d4 a4 W H0 H1 H4 (by omega) (by omega) (by omega) F0 F1 F4
  have v0b := GentlestPlan_len m0 a0 a1 a2 a3 a4
  generalize GentlestPlan_v0 m0 a0 a1 a2 a3 a4 = v0 at cs ci v0b
  generalize hv0 : v0.length = v0n at cs ci v0b
  clear hv0
  generalize GentlestPlan_v1 m0 a0 a1 a2 a3 a4 = v1 at cs ci v0b
  generalize GentlestPlan_v2 m0 a0 a1 a2 a3 a4 = v2 at cs ci v0b
  have Cs := Lib.hid cs
  have Ci := Lib.hid ci
  clear cs ci
  have E0 := Lib.hid (szL_pos e0)
  have E1 := Lib.hid (szL_pos e1)
  go_enter Try.func6, Try.ntmps6
  go_wp2_with fail
  refine (szNetwork_any m0 x0 n0 p0 a0 (1048576) _ (h0.kept (below_a1 _ _)) (by omega) (by omega) (by omega)).mono ?_
  rintro e w1 ⟨rfl, b1⟩
  have c1 : Below w.heap.size w w1 := below_step (below_a1 _ _) b1 (by simp <;> omega)
  have f5 : w1.cell? ⟨w.heap.size, 0, none⟩ = some (.int .i64 m0) := (keeps b1 _ _ (by simp <;> omega)).trans (by simp [go_sem])
  have f6 : w1.cell? ⟨w.heap.size, 1, none⟩ = some (.slice x0 n0 p0) := (keeps b1 _ _ (by simp <;> omega)).trans (by simp [go_sem])
  have f5q : w.heap.size < w1.heap.size := World.block_lt_of_cell? _ _ f5
  have s1 : w.heap.size + 1 ≤ w1.heap.size := by have := b1.size; simp at this; omega
  have t1 : Below w.heap.size w w1 := c1
  rw [E0.out]
  go_wp2_with fail
  refine (szValveS_any x1 n1 p1 (1048576 - (n0 : Int)) _ (by omega) (by omega) (by omega)).mono ?_
  rintro e w' ⟨rfl, rfl⟩
  rw [E1.out]
  go_wp2_with fail
  refine (toNetwork_any m0 x0 n0 p0 a0 _ (h0.kept t1) (by omega)).mono ?_
  rintro e w2 ⟨A2, d2, rfl, o2, b2⟩
  have c2 : Below w1.heap.size w1 w2 := b2
  have f7 : w2.cell? ⟨w.heap.size, 0, none⟩ = some (.int .i64 m0) := later c2 f5
  have f8 : w2.cell? ⟨w.heap.size, 1, none⟩ = some (.slice x0 n0 p0) := later c2 f6
  clear f5 f5q f6
  have f7q : w.heap.size < w2.heap.size := World.block_lt_of_cell? _ _ f7
  have s2 := c2.size
  have t2 : Below w.heap.size w w2 := also t1 c2
  have o2b := own_base (base' := w1.heap.size) o2 (by simp <;> omega)
  have o2l := Lib.hid (fun j h => World.ownsRow.lt o2b j h)
  have o2h := Lib.hid o2b
  clear o2 o2b
  go_wp2_with fail
  refine (toValveS_any x1 n1 p1 a1 _ (h1.kept t2) (by omega)).mono ?_
  rintro e w3 ⟨A3, d3, rfl, o3, b3⟩
  have c3 : Below w2.heap.size w2 w3 := b3
  have f9 : w3.cell? ⟨w.heap.size, 0, none⟩ = some (.int .i64 m0) := later c3 f7
  have f10 : w3.cell? ⟨w.heap.size, 1, none⟩ = some (.slice x0 n0 p0) := later c3 f8
  clear f7 f7q f8
  have f9q : w.heap.size < w3.heap.size := World.block_lt_of_cell? _ _ f9
  have s3 := c3.size
  have o2h' := Lib.hid (own_kept o2h.out c3)
  clear o2h
  have t3 : Below w.heap.size w w3 := also t2 c3
  have o3b := own_base (base' := w2.heap.size) o3 (by simp <;> omega)
  have o3l := Lib.hid (fun j h => World.ownsRow.lt o3b j h)
  have o3h := Lib.hid o3b
  clear o3 o3b
  go_wp2_with fail
  refine (toIntS_any x4 n4 p4 a4 _ (h4.kept t3) (by omega)).mono ?_
  rintro e w4 ⟨A4, d4, rfl, o4, b4⟩
  have c4 : Below w3.heap.size w3 w4 := b4
  have f11 : w4.cell? ⟨w.heap.size, 0, none⟩ = some (.int .i64 m0) := later c4 f9
  have f12 : w4.cell? ⟨w.heap.size, 1, none⟩ = some (.slice x0 n0 p0) := later c4 f10
  clear f9 f9q f10
  have f11q : w.heap.size < w4.heap.size := World.block_lt_of_cell? _ _ f11
  have s4 := c4.size
  have o2h'' := Lib.hid (own_kept o2h'.out c4)
  clear o2h'
  have o3h' := Lib.hid (own_kept o3h.out c4)
  clear o3h
  have t4 : Below w.heap.size w w4 := also t3 c4
  have o4b := own_base (base' := w3.heap.size) o4 (by simp <;> omega)
  have o4l := Lib.hid (fun j h => World.ownsRow.lt o4b j h)
  have o4h := Lib.hid o4b
  clear o4 o4b
  go_wp2_with fail
  refine (Cs.out A2 d2 A3 d3 A4 d4 _ (own_rd o2h''.out) (own_rd o3h'.out) (own_rd o4h.out) (own_fm o2h''.out) (own_fm o3h'.out) (own_fm o4h.out)).mono ?_
  rintro e w5 ⟨A5_0, d5_0, rfl, o5_0, b5⟩
  have c5 : Below w4.heap.size w4 w5 := b5
  have f13 : w5.cell? ⟨w.heap.size, 0, none⟩ = some (.int .i64 m0) := later c5 f11
  have f14 : w5.cell? ⟨w.heap.size, 1, none⟩ = some (.slice x0 n0 p0) := later c5 f12
  clear f11 f11q f12
  have f13q : w.heap.size < w5.heap.size := World.block_lt_of_cell? _ _ f13
  have s5 := c5.size
  have o2h''' := Lib.hid (own_kept o2h''.out c5)
  clear o2h''
  have o3h'' := Lib.hid (own_kept o3h'.out c5)
  clear o3h'
  have o4h' := Lib.hid (own_kept o4h.out c5)
  clear o4h
  have t5 : Below w.heap.size w w5 := also t4 c5
  have o5_0h := Lib.hid o5_0
  clear o5_0
  go_wp2_with fail
  refine (toNetwork_any m0 x0 n0 p0 a0 _ (h0.kept t5) (by omega)).mono ?_
  rintro e w6 ⟨A6, d6, rfl, o6, b6⟩
  have c6 : Below w5.heap.size w5 w6 := b6
  have f15 : w6.cell? ⟨w.heap.size, 0, none⟩ = some (.int .i64 m0) := later c6 f13
  have f16 : w6.cell? ⟨w.heap.size, 1, none⟩ = some (.slice x0 n0 p0) := later c6 f14
  clear f13 f13q f14
  have f15q : w.heap.size < w6.heap.size := World.block_lt_of_cell? _ _ f15
  have s6 := c6.size
  have o2h'''' := Lib.hid (own_kept o2h'''.out c6)
  clear o2h'''
  have o3h''' := Lib.hid (own_kept o3h''.out c6)
  clear o3h''
  have o4h'' := Lib.hid (own_kept o4h'.out c6)
  clear o4h'
  have q5_0T6 : Below w5.heap.size w5 w6 := c6
  have t6 : Below w.heap.size w w6 := also t5 c6
  have o6b := own_base (base' := w5.heap.size) o6 (by simp <;> omega)
  have o6l := Lib.hid (fun j h => World.ownsRow.lt o6b j h)
  have o6h := Lib.hid o6b
  clear o6 o6b
  go_wp2_with fail
  refine (toValveS_any x1 n1 p1 a1 _ (h1.kept (below_step t6 (below_a1 _ _) (Nat.le_refl _))) (by omega)).mono ?_
  rintro e w7 ⟨A7, d7, rfl, o7, b7⟩
  have c7 : Below w6.heap.size w6 w7 := below_step (below_a1 _ _) b7 (by simp <;> omega)
  have f17 : w7.cell? ⟨w.heap.size, 0, none⟩ = some (.int .i64 m0) := later c7 f15
  have f18 : w7.cell? ⟨w.heap.size, 1, none⟩ = some (.slice x0 n0 p0) := later c7 f16
  have f19 : w7.cell? ⟨w6.heap.size, 0, none⟩ = some (.int .i64 m0) := (keeps b7 _ _ (by simp <;> omega)).trans (by simp [go_sem])
  have f20 : w7.cell? ⟨w6.heap.size, 1, none⟩ = some (.slice A6 n0 d6) := (keeps b7 _ _ (by simp <;> omega)).trans (by simp [go_sem])
  clear f15 f15q f16
  have f17q : w.heap.size < w7.heap.size := World.block_lt_of_cell? _ _ f17
  have f19q : w6.heap.size < w7.heap.size := World.block_lt_of_cell? _ _ f19
  have s7 : w6.heap.size + 1 ≤ w7.heap.size := by have := b7.size; simp at this; omega
  have o2h''''' := Lib.hid (own_kept o2h''''.out c7)
  clear o2h''''
  have o3h'''' := Lib.hid (own_kept o3h'''.out c7)
  clear o3h'''
  have o4h''' := Lib.hid (own_kept o4h''.out c7)
  clear o4h''
  have q5_0T7 : Below w5.heap.size w5 w7 := also q5_0T6 c7
  have o6h' := Lib.hid (own_kept o6h.out c7)
  clear o6h
  have t7 : Below w.heap.size w w7 := also t6 c7
  have o7b := own_base (base' := w6.heap.size + 1) o7 (by simp <;> omega)
  have o7l := Lib.hid (fun j h => World.ownsRow.lt o7b j h)
  have o7h := Lib.hid o7b
  clear o7 o7b
  go_wp2_with fail
  refine (toIntS_any x4 n4 p4 a4 _ (h4.kept t7) (by omega)).mono ?_
  rintro e w8 ⟨A8, d8, rfl, o8, b8⟩
  have c8 : Below w7.heap.size w7 w8 := b8
  have f21 : w8.cell? ⟨w.heap.size, 0, none⟩ = some (.int .i64 m0) := later c8 f17
  have f22 : w8.cell? ⟨w.heap.size, 1, none⟩ = some (.slice x0 n0 p0) := later c8 f18
  have f23 : w8.cell? ⟨w6.heap.size, 0, none⟩ = some (.int .i64 m0) := later c8 f19
  have f24 : w8.cell? ⟨w6.heap.size, 1, none⟩ = some (.slice A6 n0 d6) := later c8 f20
  clear f17 f17q f18 f19 f19q f20
  have f21q : w.heap.size < w8.heap.size := World.block_lt_of_cell? _ _ f21
  have f23q : w6.heap.size < w8.heap.size := World.block_lt_of_cell? _ _ f23
  have s8 := c8.size
  have o2h'''''' := Lib.hid (own_kept o2h'''''.out c8)
  clear o2h'''''
  have o3h''''' := Lib.hid (own_kept o3h''''.out c8)
  clear o3h''''
  have o4h'''' := Lib.hid (own_kept o4h'''.out c8)
  clear o4h'''
  have q5_0T8 : Below w5.heap.size w5 w8 := also q5_0T7 c8
  have o6h'' := Lib.hid (own_kept o6h'.out c8)
  clear o6h'
  have o7h' := Lib.hid (own_kept o7h.out c8)
  clear o7h
  have t8 : Below w.heap.size w w8 := also t7 c8
  have o8b := own_base (base' := w7.heap.size) o8 (by simp <;> omega)
  have o8l := Lib.hid (fun j h => World.ownsRow.lt o8b j h)
  have o8h := Lib.hid o8b
  clear o8 o8b
  go_wp2_with fail
  refine (Ci.out A6 d6 A7 d7 A8 d8 _ (own_rd o6h''.out) (own_rd o7h'.out) (own_rd o8h.out) (own_fm o6h''.out) (own_fm o7h'.out) (own_fm o8h.out)).mono ?_
  rintro e w9 ⟨A9_0, d9_0, rfl, o9_0, b9⟩
  have c9 : Below w8.heap.size w8 w9 := b9
  have f25 : w9.cell? ⟨w.heap.size, 0, none⟩ = some (.int .i64 m0) := later c9 f21
  have f26 : w9.cell? ⟨w.heap.size, 1, none⟩ = some (.slice x0 n0 p0) := later c9 f22
  have f27 : w9.cell? ⟨w6.heap.size, 0, none⟩ = some (.int .i64 m0) := later c9 f23
  have f28 : w9.cell? ⟨w6.heap.size, 1, none⟩ = some (.slice A6 n0 d6) := later c9 f24
  clear f21 f21q f22 f23 f23q f24
  have f25q : w.heap.size < w9.heap.size := World.block_lt_of_cell? _ _ f25
  have f27q : w6.heap.size < w9.heap.size := World.block_lt_of_cell? _ _ f27
  have s9 := c9.size
  have o2h''''''' := Lib.hid (own_kept o2h''''''.out c9)
  clear o2h''''''
  have o3h'''''' := Lib.hid (own_kept o3h'''''.out c9)
  clear o3h'''''
  have o4h''''' := Lib.hid (own_kept o4h''''.out c9)
  clear o4h''''
  have q5_0T9 : Below w5.heap.size w5 w9 := also q5_0T8 c9
  have o6h''' := Lib.hid (own_kept o6h''.out c9)
  clear o6h''
  have o7h'' := Lib.hid (own_kept o7h'.out c9)
  clear o7h'
  have o8h' := Lib.hid (own_kept o8h.out c9)
  clear o8h
  have t9 : Below w.heap.size w w9 := also t8 c9
  have o9_0b := own_base (base' := w8.heap.size) o9_0 (by simp <;> omega)
  have o9_0l := Lib.hid (fun j h => World.ownsRow.lt o9_0b j h)
  have o9_0h := Lib.hid o9_0b
  clear o9_0 o9_0b
  go_wp2_with fail
  refine (eqIntS_below A9_0 A5_0 v0n d9_0 d5_0 v0 _ (own_rd o9_0h.out) (o5_0h.out.kept q5_0T9) (by omega)).mono ?_
  rintro e w10 ⟨rfl, b10⟩
  have c10 : Below w9.heap.size w9 w10 := b10
  have f29 : w10.cell? ⟨w.heap.size, 0, none⟩ = some (.int .i64 m0) := later c10 f25
  have f30 : w10.cell? ⟨w.heap.size, 1, none⟩ = some (.slice x0 n0 p0) := later c10 f26
  have f31 : w10.cell? ⟨w6.heap.size, 0, none⟩ = some (.int .i64 m0) := later c10 f27
  have f32 : w10.cell? ⟨w6.heap.size, 1, none⟩ = some (.slice A6 n0 d6) := later c10 f28
  clear f25 f25q f26 f27 f27q f28
  have f29q : w.heap.size < w10.heap.size := World.block_lt_of_cell? _ _ f29
  have f31q : w6.heap.size < w10.heap.size := World.block_lt_of_cell? _ _ f31
  have s10 := c10.size
  have o2h'''''''' := Lib.hid (own_kept o2h'''''''.out c10)
  clear o2h'''''''
  have o3h''''''' := Lib.hid (own_kept o3h''''''.out c10)
  clear o3h''''''
  have o4h'''''' := Lib.hid (own_kept o4h'''''.out c10)
  clear o4h'''''
  have q5_0T10 : Below w5.heap.size w5 w10 := also q5_0T9 c10
  have o6h'''' := Lib.hid (own_kept o6h'''.out c10)
  clear o6h'''
  have o7h''' := Lib.hid (own_kept o7h''.out c10)
  clear o7h''
  have o8h'' := Lib.hid (own_kept o8h'.out c10)
  clear o8h'
  have o9_0h' := Lib.hid (own_kept o9_0h.out c10)
  clear o9_0h
  have t10 : Below w.heap.size w w10 := also t9 c10
  go_wp2_with fail
  have Hx := Lib.hid (fun W' (hW : Below w10.heap.size w10 W') => toNetwork_any m0 x0 n0 p0 a0 W' (h0.kept (also t10 hW)) (by omega))
  have Hr := Lib.hid (own_rd o6h''''.out)
  go_region_held3 (fun w' => w'.cell? ⟨w6.heap.size, 0, none⟩ = some (.int .i64 m0) ∧ w'.cell? ⟨w6.heap.size, 1, none⟩ = some (.slice A6 n0 d6) ∧ w'.cell? ⟨w.heap.size, 0, none⟩ = some (.int .i64 m0) ∧ w'.cell? ⟨w.heap.size, 1, none⟩ = some (.slice x0 n0 p0) ∧ Below w10.heap.size w10 w') (first | (go_split_ands; refine held4 f31 f32 f29 f30 ?_; first | exact (Below.refl _ _).drew | exact also (by assumption) (by assumption) | exact below_drewN (by assumption) _)) (first | (go_at_call 16; (with_reducible refine (Hx.out _ (by first | exact (Below.refl _ _).drew | (go_split_ands; assumption))).mono ?_); rintro e w11 ⟨A11, d11, rfl, o11, b11⟩; have O11 := Lib.hid (own_rd o11); clear o11) | (go_at_call 20; refine (eqNetwork_below m0 A6 A11 n0 d6 d11 a0 _ (Hr.out.kept (by go_split_ands; assumption)) O11.out (by omega)).mono ?_; rintro e w11x ⟨rfl, b11x⟩))
  rename_i hS
  have b11y := hS.2.2.2.2
  clear hS Hx Hr
  have c11x : Below w10.heap.size w10 w11x := b11y
  have f33 : w11x.cell? ⟨w.heap.size, 0, none⟩ = some (.int .i64 m0) := later c11x f29
  have f34 : w11x.cell? ⟨w.heap.size, 1, none⟩ = some (.slice x0 n0 p0) := later c11x f30
  have f35 : w11x.cell? ⟨w6.heap.size, 0, none⟩ = some (.int .i64 m0) := later c11x f31
  have f36 : w11x.cell? ⟨w6.heap.size, 1, none⟩ = some (.slice A6 n0 d6) := later c11x f32
  clear f29 f29q f30 f31 f31q f32
  have f33q : w.heap.size < w11x.heap.size := World.block_lt_of_cell? _ _ f33
  have f35q : w6.heap.size < w11x.heap.size := World.block_lt_of_cell? _ _ f35
  have s11x := c11x.size
  have o2h''''''''' := Lib.hid (own_kept o2h''''''''.out c11x)
  clear o2h''''''''
  have o3h'''''''' := Lib.hid (own_kept o3h'''''''.out c11x)
  clear o3h'''''''
  have o4h''''''' := Lib.hid (own_kept o4h''''''.out c11x)
  clear o4h''''''
  have q5_0T11x : Below w5.heap.size w5 w11x := also q5_0T10 c11x
  have o6h''''' := Lib.hid (own_kept o6h''''.out c11x)
  clear o6h''''
  have o7h'''' := Lib.hid (own_kept o7h'''.out c11x)
  clear o7h'''
  have o8h''' := Lib.hid (own_kept o8h''.out c11x)
  clear o8h''
  have o9_0h'' := Lib.hid (own_kept o9_0h'.out c11x)
  clear o9_0h'
  have t11x : Below w.heap.size w w11x := also t10 c11x
  go_wp2_with fail
  refine (toValveS_any x1 n1 p1 a1 _ (h1.kept t11x) (by omega)).mono ?_
  rintro e w12 ⟨A12, d12, rfl, o12, b12⟩
  have c12 : Below w11x.heap.size w11x w12 := b12
  have f37 : w12.cell? ⟨w.heap.size, 0, none⟩ = some (.int .i64 m0) := later c12 f33
  have f38 : w12.cell? ⟨w.heap.size, 1, none⟩ = some (.slice x0 n0 p0) := later c12 f34
  have f39 : w12.cell? ⟨w6.heap.size, 0, none⟩ = some (.int .i64 m0) := later c12 f35
  have f40 : w12.cell? ⟨w6.heap.size, 1, none⟩ = some (.slice A6 n0 d6) := later c12 f36
  clear f33 f33q f34 f35 f35q f36
  have f37q : w.heap.size < w12.heap.size := World.block_lt_of_cell? _ _ f37
  have f39q : w6.heap.size < w12.heap.size := World.block_lt_of_cell? _ _ f39
  have s12 := c12.size
  have o2h'''''''''' := Lib.hid (own_kept o2h'''''''''.out c12)
  clear o2h'''''''''
  have o3h''''''''' := Lib.hid (own_kept o3h''''''''.out c12)
  clear o3h''''''''
  have o4h'''''''' := Lib.hid (own_kept o4h'''''''.out c12)
  clear o4h'''''''
  have q5_0T12 : Below w5.heap.size w5 w12 := also q5_0T11x c12
  have o6h'''''' := Lib.hid (own_kept o6h'''''.out c12)
  clear o6h'''''
  have o7h''''' := Lib.hid (own_kept o7h''''.out c12)
  clear o7h''''
  have o8h'''' := Lib.hid (own_kept o8h'''.out c12)
  clear o8h'''
  have o9_0h''' := Lib.hid (own_kept o9_0h''.out c12)
  clear o9_0h''
  have t12 : Below w.heap.size w w12 := also t11x c12
  have o12b := own_base (base' := w11x.heap.size) o12 (by simp <;> omega)
  have o12l := Lib.hid (fun j h => World.ownsRow.lt o12b j h)
  have o12h := Lib.hid o12b
  clear o12 o12b
  go_wp2_with fail
  refine (eqValveS_below A7 A12 n1 d7 d12 a1 _ (own_rd o7h'''''.out) (own_rd o12h.out) (by omega)).mono ?_
  rintro e w13 ⟨rfl, b13⟩
  have c13 : Below w12.heap.size w12 w13 := b13
  have f41 : w13.cell? ⟨w.heap.size, 0, none⟩ = some (.int .i64 m0) := later c13 f37
  have f42 : w13.cell? ⟨w.heap.size, 1, none⟩ = some (.slice x0 n0 p0) := later c13 f38
  have f43 : w13.cell? ⟨w6.heap.size, 0, none⟩ = some (.int .i64 m0) := later c13 f39
  have f44 : w13.cell? ⟨w6.heap.size, 1, none⟩ = some (.slice A6 n0 d6) := later c13 f40
  clear f37 f37q f38 f39 f39q f40
  have f41q : w.heap.size < w13.heap.size := World.block_lt_of_cell? _ _ f41
  have f43q : w6.heap.size < w13.heap.size := World.block_lt_of_cell? _ _ f43
  have s13 := c13.size
  have o2h''''''''''' := Lib.hid (own_kept o2h''''''''''.out c13)
  clear o2h''''''''''
  have o3h'''''''''' := Lib.hid (own_kept o3h'''''''''.out c13)
  clear o3h'''''''''
  have o4h''''''''' := Lib.hid (own_kept o4h''''''''.out c13)
  clear o4h''''''''
  have q5_0T13 : Below w5.heap.size w5 w13 := also q5_0T12 c13
  have o6h''''''' := Lib.hid (own_kept o6h''''''.out c13)
  clear o6h''''''
  have o7h'''''' := Lib.hid (own_kept o7h'''''.out c13)
  clear o7h'''''
  have o8h''''' := Lib.hid (own_kept o8h''''.out c13)
  clear o8h''''
  have o9_0h'''' := Lib.hid (own_kept o9_0h'''.out c13)
  clear o9_0h'''
  have o12h' := Lib.hid (own_kept o12h.out c13)
  clear o12h
  have t13 : Below w.heap.size w w13 := also t12 c13
  go_wp2_with fail
  refine (toIntS_any x4 n4 p4 a4 _ (h4.kept t13) (by omega)).mono ?_
  rintro e w14 ⟨A14, d14, rfl, o14, b14⟩
  have c14 : Below w13.heap.size w13 w14 := b14
  have f45 : w14.cell? ⟨w.heap.size, 0, none⟩ = some (.int .i64 m0) := later c14 f41
  have f46 : w14.cell? ⟨w.heap.size, 1, none⟩ = some (.slice x0 n0 p0) := later c14 f42
  have f47 : w14.cell? ⟨w6.heap.size, 0, none⟩ = some (.int .i64 m0) := later c14 f43
  have f48 : w14.cell? ⟨w6.heap.size, 1, none⟩ = some (.slice A6 n0 d6) := later c14 f44
  clear f41 f41q f42 f43 f43q f44
  have f45q : w.heap.size < w14.heap.size := World.block_lt_of_cell? _ _ f45
  have f47q : w6.heap.size < w14.heap.size := World.block_lt_of_cell? _ _ f47
  have s14 := c14.size
  have o2h'''''''''''' := Lib.hid (own_kept o2h'''''''''''.out c14)
  clear o2h'''''''''''
  have o3h''''''''''' := Lib.hid (own_kept o3h''''''''''.out c14)
  clear o3h''''''''''
  have o4h'''''''''' := Lib.hid (own_kept o4h'''''''''.out c14)
  clear o4h'''''''''
  have q5_0T14 : Below w5.heap.size w5 w14 := also q5_0T13 c14
  have o6h'''''''' := Lib.hid (own_kept o6h'''''''.out c14)
  clear o6h'''''''
  have o7h''''''' := Lib.hid (own_kept o7h''''''.out c14)
  clear o7h''''''
  have o8h'''''' := Lib.hid (own_kept o8h'''''.out c14)
  clear o8h'''''
  have o9_0h''''' := Lib.hid (own_kept o9_0h''''.out c14)
  clear o9_0h''''
  have o12h'' := Lib.hid (own_kept o12h'.out c14)
  clear o12h'
  have t14 : Below w.heap.size w w14 := also t13 c14
  have o14b := own_base (base' := w13.heap.size) o14 (by simp <;> omega)
  have o14l := Lib.hid (fun j h => World.ownsRow.lt o14b j h)
  have o14h := Lib.hid o14b
  clear o14 o14b
  go_wp2_with fail
  refine (eqIntS_below A8 A14 n4 d8 d14 a4 _ (own_rd o8h''''''.out) (own_rd o14h.out) (by omega)).mono ?_
  rintro e w15 ⟨rfl, b15⟩
  have c15 : Below w14.heap.size w14 w15 := b15
  have f49 : w15.cell? ⟨w.heap.size, 0, none⟩ = some (.int .i64 m0) := later c15 f45
  have f50 : w15.cell? ⟨w.heap.size, 1, none⟩ = some (.slice x0 n0 p0) := later c15 f46
  have f51 : w15.cell? ⟨w6.heap.size, 0, none⟩ = some (.int .i64 m0) := later c15 f47
  have f52 : w15.cell? ⟨w6.heap.size, 1, none⟩ = some (.slice A6 n0 d6) := later c15 f48
  clear f45 f45q f46 f47 f47q f48
  have f49q : w.heap.size < w15.heap.size := World.block_lt_of_cell? _ _ f49
  have f51q : w6.heap.size < w15.heap.size := World.block_lt_of_cell? _ _ f51
  have s15 := c15.size
  have o2h''''''''''''' := Lib.hid (own_kept o2h''''''''''''.out c15)
  clear o2h''''''''''''
  have o3h'''''''''''' := Lib.hid (own_kept o3h'''''''''''.out c15)
  clear o3h'''''''''''
  have o4h''''''''''' := Lib.hid (own_kept o4h''''''''''.out c15)
  clear o4h''''''''''
  have q5_0T15 : Below w5.heap.size w5 w15 := also q5_0T14 c15
  have o6h''''''''' := Lib.hid (own_kept o6h''''''''.out c15)
  clear o6h''''''''
  have o7h'''''''' := Lib.hid (own_kept o7h'''''''.out c15)
  clear o7h'''''''
  have o8h''''''' := Lib.hid (own_kept o8h''''''.out c15)
  clear o8h''''''
  have o9_0h'''''' := Lib.hid (own_kept o9_0h'''''.out c15)
  clear o9_0h'''''
  have o12h''' := Lib.hid (own_kept o12h''.out c15)
  clear o12h''
  have o14h' := Lib.hid (own_kept o14h.out c15)
  clear o14h
  have t15 : Below w.heap.size w w15 := also t14 c15
  go_wp2_with fail
  refine (markNetwork_any m0 A6 n0 d6 _ _ _ _ o6h'''''''''.out (by omega) (by omega) (by omega)).mono ?_
  rintro e w16 ⟨rfl, o16, g16⟩
  have t16 : Below w.heap.size w w16 := Below.grown t15 g16 (by have := t15.size; simp; omega) (fun j h => by have h2 := o6l.out j h; omega)
  have q5_0T16 : Below w5.heap.size w5 w16 := Below.grown q5_0T15 g16 (by have := q5_0T15.size; simp; omega) (fun j h => by have h2 := o6l.out j h; omega)
  have z16 : w15.heap.size ≤ w16.heap.size := by have := g16.size; (try simp at this); omega
  have f53 : w16.cell? ⟨w.heap.size, 0, none⟩ = some (.int .i64 m0) := g16.cell (f49) (fun e => by have h := o6l.out _ e.symm; dsimp only at h; omega)
  have f54 : w16.cell? ⟨w.heap.size, 1, none⟩ = some (.slice x0 n0 p0) := g16.cell (f50) (fun e => by have h := o6l.out _ e.symm; dsimp only at h; omega)
  have f55 : w16.cell? ⟨w6.heap.size, 0, none⟩ = some (.int .i64 m0) := g16.cell (f51) (fun e => by have h := o6l.out _ e.symm; dsimp only at h; omega)
  have f56 : w16.cell? ⟨w6.heap.size, 1, none⟩ = some (.slice A6 n0 d6) := g16.cell (f52) (fun e => by have h := o6l.out _ e.symm; dsimp only at h; omega)
  clear f49 f49q f50 f51 f51q f52
  have f53q : w.heap.size < w16.heap.size := World.block_lt_of_cell? _ _ f53
  have f55q : w6.heap.size < w16.heap.size := World.block_lt_of_cell? _ _ f55
  have o2h'''''''''''''' := Lib.hid (own_grown o2h'''''''''''''.out g16 (fun j h1 h2 => by have q1 := o2l.out j h1; have q2 := o6l.out j h2; omega))
  clear o2h'''''''''''''
  have o3h''''''''''''' := Lib.hid (own_grown o3h''''''''''''.out g16 (fun j h1 h2 => by have q1 := o3l.out j h1; have q2 := o6l.out j h2; omega))
  clear o3h''''''''''''
  have o4h'''''''''''' := Lib.hid (own_grown o4h'''''''''''.out g16 (fun j h1 h2 => by have q1 := o4l.out j h1; have q2 := o6l.out j h2; omega))
  clear o4h'''''''''''
  have o7h''''''''' := Lib.hid (own_grown o7h''''''''.out g16 (fun j h1 h2 => by have q1 := o7l.out j h1; have q2 := o6l.out j h2; omega))
  clear o7h''''''''
  have o8h'''''''' := Lib.hid (own_grown o8h'''''''.out g16 (fun j h1 h2 => by have q1 := o8l.out j h1; have q2 := o6l.out j h2; omega))
  clear o8h'''''''
  have o9_0h''''''' := Lib.hid (own_grown o9_0h''''''.out g16 (fun j h1 h2 => by have q1 := o9_0l.out j h1; have q2 := o6l.out j h2; omega))
  clear o9_0h''''''
  have o12h'''' := Lib.hid (own_grown o12h'''.out g16 (fun j h1 h2 => by have q1 := o12l.out j h1; have q2 := o6l.out j h2; omega))
  clear o12h'''
  have o14h'' := Lib.hid (own_grown o14h'.out g16 (fun j h1 h2 => by have q1 := o14l.out j h1; have q2 := o6l.out j h2; omega))
  clear o14h'
  have o16h := Lib.hid o16
  clear o16 g16 o6h'''''''''
  go_wp2_with fail
  refine (markValveS_any A7 n1 d7 _ _ _ _ o7h'''''''''.out (by omega) (by omega) (by omega)).mono ?_
  rintro e w17 ⟨rfl, o17, g17⟩
  have t17 : Below w.heap.size w w17 := Below.grown t16 g17 (by have := t16.size; simp; omega) (fun j h => by have h2 := o7l.out j h; omega)
  have q5_0T17 : Below w5.heap.size w5 w17 := Below.grown q5_0T16 g17 (by have := q5_0T16.size; simp; omega) (fun j h => by have h2 := o7l.out j h; omega)
  have z17 : w16.heap.size ≤ w17.heap.size := by have := g17.size; (try simp at this); omega
  have f57 : w17.cell? ⟨w.heap.size, 0, none⟩ = some (.int .i64 m0) := g17.cell (f53) (fun e => by have h := o7l.out _ e.symm; dsimp only at h; omega)
  have f58 : w17.cell? ⟨w.heap.size, 1, none⟩ = some (.slice x0 n0 p0) := g17.cell (f54) (fun e => by have h := o7l.out _ e.symm; dsimp only at h; omega)
  have f59 : w17.cell? ⟨w6.heap.size, 0, none⟩ = some (.int .i64 m0) := g17.cell (f55) (fun e => by have h := o7l.out _ e.symm; dsimp only at h; omega)
  have f60 : w17.cell? ⟨w6.heap.size, 1, none⟩ = some (.slice A6 n0 d6) := g17.cell (f56) (fun e => by have h := o7l.out _ e.symm; dsimp only at h; omega)
  clear f53 f53q f54 f55 f55q f56
  have f57q : w.heap.size < w17.heap.size := World.block_lt_of_cell? _ _ f57
  have f59q : w6.heap.size < w17.heap.size := World.block_lt_of_cell? _ _ f59
  have o2h''''''''''''''' := Lib.hid (own_grown o2h''''''''''''''.out g17 (fun j h1 h2 => by have q1 := o2l.out j h1; have q2 := o7l.out j h2; omega))
  clear o2h''''''''''''''
  have o3h'''''''''''''' := Lib.hid (own_grown o3h'''''''''''''.out g17 (fun j h1 h2 => by have q1 := o3l.out j h1; have q2 := o7l.out j h2; omega))
  clear o3h'''''''''''''
  have o4h''''''''''''' := Lib.hid (own_grown o4h''''''''''''.out g17 (fun j h1 h2 => by have q1 := o4l.out j h1; have q2 := o7l.out j h2; omega))
  clear o4h''''''''''''
  have o16h' := Lib.hid (own_grown o16h.out g17 (fun j h1 h2 => by have q1 := o6l.out j h1; have q2 := o7l.out j h2; omega))
  clear o16h
  have o8h''''''''' := Lib.hid (own_grown o8h''''''''.out g17 (fun j h1 h2 => by have q1 := o8l.out j h1; have q2 := o7l.out j h2; omega))
  clear o8h''''''''
  have o9_0h'''''''' := Lib.hid (own_grown o9_0h'''''''.out g17 (fun j h1 h2 => by have q1 := o9_0l.out j h1; have q2 := o7l.out j h2; omega))
  clear o9_0h'''''''
  have o12h''''' := Lib.hid (own_grown o12h''''.out g17 (fun j h1 h2 => by have q1 := o12l.out j h1; have q2 := o7l.out j h2; omega))
  clear o12h''''
  have o14h''' := Lib.hid (own_grown o14h''.out g17 (fun j h1 h2 => by have q1 := o14l.out j h1; have q2 := o7l.out j h2; omega))
  clear o14h''
  have o17h := Lib.hid o17
  clear o17 g17 o7h'''''''''
  go_wp2_with fail
  refine (markIntS_any A8 n4 d8 _ _ (a4) _ o8h'''''''''.out (by omega) (by omega) (by omega)).mono ?_
  rintro e w18 ⟨rfl, o18, g18⟩
  have t18 : Below w.heap.size w w18 := Below.grown t17 g18 (by have := t17.size; simp; omega) (fun j h => by have h2 := o8l.out j h; omega)
  have q5_0T18 : Below w5.heap.size w5 w18 := Below.grown q5_0T17 g18 (by have := q5_0T17.size; simp; omega) (fun j h => by have h2 := o8l.out j h; omega)
  have z18 : w17.heap.size ≤ w18.heap.size := by have := g18.size; (try simp at this); omega
  have f61 : w18.cell? ⟨w.heap.size, 0, none⟩ = some (.int .i64 m0) := g18.cell (f57) (fun e => by have h := o8l.out _ e.symm; dsimp only at h; omega)
  have f62 : w18.cell? ⟨w.heap.size, 1, none⟩ = some (.slice x0 n0 p0) := g18.cell (f58) (fun e => by have h := o8l.out _ e.symm; dsimp only at h; omega)
  have f63 : w18.cell? ⟨w6.heap.size, 0, none⟩ = some (.int .i64 m0) := g18.cell (f59) (fun e => by have h := o8l.out _ e.symm; dsimp only at h; omega)
  have f64 : w18.cell? ⟨w6.heap.size, 1, none⟩ = some (.slice A6 n0 d6) := g18.cell (f60) (fun e => by have h := o8l.out _ e.symm; dsimp only at h; omega)
  clear f57 f57q f58 f59 f59q f60
  have f61q : w.heap.size < w18.heap.size := World.block_lt_of_cell? _ _ f61
  have f63q : w6.heap.size < w18.heap.size := World.block_lt_of_cell? _ _ f63
  have o2h'''''''''''''''' := Lib.hid (own_grown o2h'''''''''''''''.out g18 (fun j h1 h2 => by have q1 := o2l.out j h1; have q2 := o8l.out j h2; omega))
  clear o2h'''''''''''''''
  have o3h''''''''''''''' := Lib.hid (own_grown o3h''''''''''''''.out g18 (fun j h1 h2 => by have q1 := o3l.out j h1; have q2 := o8l.out j h2; omega))
  clear o3h''''''''''''''
  have o4h'''''''''''''' := Lib.hid (own_grown o4h'''''''''''''.out g18 (fun j h1 h2 => by have q1 := o4l.out j h1; have q2 := o8l.out j h2; omega))
  clear o4h'''''''''''''
  have o16h'' := Lib.hid (own_grown o16h'.out g18 (fun j h1 h2 => by have q1 := o6l.out j h1; have q2 := o8l.out j h2; omega))
  clear o16h'
  have o17h' := Lib.hid (own_grown o17h.out g18 (fun j h1 h2 => by have q1 := o7l.out j h1; have q2 := o8l.out j h2; omega))
  clear o17h
  have o9_0h''''''''' := Lib.hid (own_grown o9_0h''''''''.out g18 (fun j h1 h2 => by have q1 := o9_0l.out j h1; have q2 := o8l.out j h2; omega))
  clear o9_0h''''''''
  have o12h'''''' := Lib.hid (own_grown o12h'''''.out g18 (fun j h1 h2 => by have q1 := o12l.out j h1; have q2 := o8l.out j h2; omega))
  clear o12h'''''
  have o14h'''' := Lib.hid (own_grown o14h'''.out g18 (fun j h1 h2 => by have q1 := o14l.out j h1; have q2 := o8l.out j h2; omega))
  clear o14h'''
  have o18h := Lib.hid o18
  clear o18 g18 o8h'''''''''
  go_wp2_with fail
  refine (eqIntS_below A9_0 A5_0 v0n d9_0 d5_0 v0 _ (own_rd o9_0h'''''''''.out) (o5_0h.out.kept q5_0T18) (by omega)).mono ?_
  rintro e w19 ⟨rfl, b19⟩
  have c19 : Below w18.heap.size w18 w19 := b19
  have f65 : w19.cell? ⟨w.heap.size, 0, none⟩ = some (.int .i64 m0) := later c19 f61
  have f66 : w19.cell? ⟨w.heap.size, 1, none⟩ = some (.slice x0 n0 p0) := later c19 f62
  have f67 : w19.cell? ⟨w6.heap.size, 0, none⟩ = some (.int .i64 m0) := later c19 f63
  have f68 : w19.cell? ⟨w6.heap.size, 1, none⟩ = some (.slice A6 n0 d6) := later c19 f64
  clear f61 f61q f62 f63 f63q f64
  have f65q : w.heap.size < w19.heap.size := World.block_lt_of_cell? _ _ f65
  have f67q : w6.heap.size < w19.heap.size := World.block_lt_of_cell? _ _ f67
  have s19 := c19.size
  have o2h''''''''''''''''' := Lib.hid (own_kept o2h''''''''''''''''.out c19)
  clear o2h''''''''''''''''
  have o3h'''''''''''''''' := Lib.hid (own_kept o3h'''''''''''''''.out c19)
  clear o3h'''''''''''''''
  have o4h''''''''''''''' := Lib.hid (own_kept o4h''''''''''''''.out c19)
  clear o4h''''''''''''''
  have q5_0T19 : Below w5.heap.size w5 w19 := also q5_0T18 c19
  have o16h''' := Lib.hid (own_kept o16h''.out c19)
  clear o16h''
  have o17h'' := Lib.hid (own_kept o17h'.out c19)
  clear o17h'
  have o18h' := Lib.hid (own_kept o18h.out c19)
  clear o18h
  have o9_0h'''''''''' := Lib.hid (own_kept o9_0h'''''''''.out c19)
  clear o9_0h'''''''''
  have o12h''''''' := Lib.hid (own_kept o12h''''''.out c19)
  clear o12h''''''
  have o14h''''' := Lib.hid (own_kept o14h''''.out c19)
  clear o14h''''
  have t19 : Below w.heap.size w w19 := also t18 c19
  go_wp2_with fail
  refine (markIntS_any A9_0 v0n d9_0 _ _ v0 _ o9_0h''''''''''.out (by omega) (by omega) (by omega)).mono ?_
  rintro e w20 ⟨rfl, o20, g20⟩
  have t20 : Below w.heap.size w w20 := Below.grown t19 g20 (by have := t19.size; simp; omega) (fun j h => by have h2 := o9_0l.out j h; omega)
  have q5_0T20 : Below w5.heap.size w5 w20 := Below.grown q5_0T19 g20 (by have := q5_0T19.size; simp; omega) (fun j h => by have h2 := o9_0l.out j h; omega)
  have z20 : w19.heap.size ≤ w20.heap.size := by have := g20.size; (try simp at this); omega
  have f69 : w20.cell? ⟨w.heap.size, 0, none⟩ = some (.int .i64 m0) := g20.cell (f65) (fun e => by have h := o9_0l.out _ e.symm; dsimp only at h; omega)
  have f70 : w20.cell? ⟨w.heap.size, 1, none⟩ = some (.slice x0 n0 p0) := g20.cell (f66) (fun e => by have h := o9_0l.out _ e.symm; dsimp only at h; omega)
  have f71 : w20.cell? ⟨w6.heap.size, 0, none⟩ = some (.int .i64 m0) := g20.cell (f67) (fun e => by have h := o9_0l.out _ e.symm; dsimp only at h; omega)
  have f72 : w20.cell? ⟨w6.heap.size, 1, none⟩ = some (.slice A6 n0 d6) := g20.cell (f68) (fun e => by have h := o9_0l.out _ e.symm; dsimp only at h; omega)
  clear f65 f65q f66 f67 f67q f68
  have f69q : w.heap.size < w20.heap.size := World.block_lt_of_cell? _ _ f69
  have f71q : w6.heap.size < w20.heap.size := World.block_lt_of_cell? _ _ f71
  have o2h'''''''''''''''''' := Lib.hid (own_grown o2h'''''''''''''''''.out g20 (fun j h1 h2 => by have q1 := o2l.out j h1; have q2 := o9_0l.out j h2; omega))
  clear o2h'''''''''''''''''
  have o3h''''''''''''''''' := Lib.hid (own_grown o3h''''''''''''''''.out g20 (fun j h1 h2 => by have q1 := o3l.out j h1; have q2 := o9_0l.out j h2; omega))
  clear o3h''''''''''''''''
  have o4h'''''''''''''''' := Lib.hid (own_grown o4h'''''''''''''''.out g20 (fun j h1 h2 => by have q1 := o4l.out j h1; have q2 := o9_0l.out j h2; omega))
  clear o4h'''''''''''''''
  have o16h'''' := Lib.hid (own_grown o16h'''.out g20 (fun j h1 h2 => by have q1 := o6l.out j h1; have q2 := o9_0l.out j h2; omega))
  clear o16h'''
  have o17h''' := Lib.hid (own_grown o17h''.out g20 (fun j h1 h2 => by have q1 := o7l.out j h1; have q2 := o9_0l.out j h2; omega))
  clear o17h''
  have o18h'' := Lib.hid (own_grown o18h'.out g20 (fun j h1 h2 => by have q1 := o8l.out j h1; have q2 := o9_0l.out j h2; omega))
  clear o18h'
  have o12h'''''''' := Lib.hid (own_grown o12h'''''''.out g20 (fun j h1 h2 => by have q1 := o12l.out j h1; have q2 := o9_0l.out j h2; omega))
  clear o12h'''''''
  have o14h'''''' := Lib.hid (own_grown o14h'''''.out g20 (fun j h1 h2 => by have q1 := o14l.out j h1; have q2 := o9_0l.out j h2; omega))
  clear o14h'''''
  have o20h := Lib.hid o20
  clear o20 g20 o9_0h''''''''''
  go_wp2_with fail
  refine (heldIntS_below A9_0 v0n d9_0 _ _ (own_rd o20h.out) (by omega) (by omega) (by omega)).mono ?_
  rintro e w21 ⟨rfl, b21⟩
  have c21 : Below w20.heap.size w20 w21 := b21
  have f73 : w21.cell? ⟨w.heap.size, 0, none⟩ = some (.int .i64 m0) := later c21 f69
  have f74 : w21.cell? ⟨w.heap.size, 1, none⟩ = some (.slice x0 n0 p0) := later c21 f70
  have f75 : w21.cell? ⟨w6.heap.size, 0, none⟩ = some (.int .i64 m0) := later c21 f71
  have f76 : w21.cell? ⟨w6.heap.size, 1, none⟩ = some (.slice A6 n0 d6) := later c21 f72
  clear f69 f69q f70 f71 f71q f72
  have f73q : w.heap.size < w21.heap.size := World.block_lt_of_cell? _ _ f73
  have f75q : w6.heap.size < w21.heap.size := World.block_lt_of_cell? _ _ f75
  have s21 := c21.size
  have o2h''''''''''''''''''' := Lib.hid (own_kept o2h''''''''''''''''''.out c21)
  clear o2h''''''''''''''''''
  have o3h'''''''''''''''''' := Lib.hid (own_kept o3h'''''''''''''''''.out c21)
  clear o3h'''''''''''''''''
  have o4h''''''''''''''''' := Lib.hid (own_kept o4h''''''''''''''''.out c21)
  clear o4h''''''''''''''''
  have q5_0T21 : Below w5.heap.size w5 w21 := also q5_0T20 c21
  have o16h''''' := Lib.hid (own_kept o16h''''.out c21)
  clear o16h''''
  have o17h'''' := Lib.hid (own_kept o17h'''.out c21)
  clear o17h'''
  have o18h''' := Lib.hid (own_kept o18h''.out c21)
  clear o18h''
  have o20h' := Lib.hid (own_kept o20h.out c21)
  clear o20h
  have o12h''''''''' := Lib.hid (own_kept o12h''''''''.out c21)
  clear o12h''''''''
  have o14h''''''' := Lib.hid (own_kept o14h''''''.out c21)
  clear o14h''''''
  have t21 : Below w.heap.size w w21 := also t20 c21
  go_wp2_with fail
  refine (toNetwork_any m0 x0 n0 p0 a0 _ (h0.kept t21) (by omega)).mono ?_
  rintro e w22 ⟨A22, d22, rfl, o22, b22⟩
  have c22 : Below w21.heap.size w21 w22 := b22
  have f77 : w22.cell? ⟨w.heap.size, 0, none⟩ = some (.int .i64 m0) := later c22 f73
  have f78 : w22.cell? ⟨w.heap.size, 1, none⟩ = some (.slice x0 n0 p0) := later c22 f74
  have f79 : w22.cell? ⟨w6.heap.size, 0, none⟩ = some (.int .i64 m0) := later c22 f75
  have f80 : w22.cell? ⟨w6.heap.size, 1, none⟩ = some (.slice A6 n0 d6) := later c22 f76
  clear f73 f73q f74 f75 f75q f76
  have f77q : w.heap.size < w22.heap.size := World.block_lt_of_cell? _ _ f77
  have f79q : w6.heap.size < w22.heap.size := World.block_lt_of_cell? _ _ f79
  have s22 := c22.size
  have o2h'''''''''''''''''''' := Lib.hid (own_kept o2h'''''''''''''''''''.out c22)
  clear o2h'''''''''''''''''''
  have o3h''''''''''''''''''' := Lib.hid (own_kept o3h''''''''''''''''''.out c22)
  clear o3h''''''''''''''''''
  have o4h'''''''''''''''''' := Lib.hid (own_kept o4h'''''''''''''''''.out c22)
  clear o4h'''''''''''''''''
  have q5_0T22 : Below w5.heap.size w5 w22 := also q5_0T21 c22
  have o16h'''''' := Lib.hid (own_kept o16h'''''.out c22)
  clear o16h'''''
  have o17h''''' := Lib.hid (own_kept o17h''''.out c22)
  clear o17h''''
  have o18h'''' := Lib.hid (own_kept o18h'''.out c22)
  clear o18h'''
  have o20h'' := Lib.hid (own_kept o20h'.out c22)
  clear o20h'
  have o12h'''''''''' := Lib.hid (own_kept o12h'''''''''.out c22)
  clear o12h'''''''''
  have o14h'''''''' := Lib.hid (own_kept o14h'''''''.out c22)
  clear o14h'''''''
  have t22 : Below w.heap.size w w22 := also t21 c22
  have o22b := own_base (base' := w21.heap.size) o22 (by simp <;> omega)
  have o22l := Lib.hid (fun j h => World.ownsRow.lt o22b j h)
  have o22h := Lib.hid o22b
  clear o22 o22b
  go_wp2_with fail
  refine (toValveS_any x1 n1 p1 a1 _ (h1.kept t22) (by omega)).mono ?_
  rintro e w23 ⟨A23, d23, rfl, o23, b23⟩
  have c23 : Below w22.heap.size w22 w23 := b23
  have f81 : w23.cell? ⟨w.heap.size, 0, none⟩ = some (.int .i64 m0) := later c23 f77
  have f82 : w23.cell? ⟨w.heap.size, 1, none⟩ = some (.slice x0 n0 p0) := later c23 f78
  have f83 : w23.cell? ⟨w6.heap.size, 0, none⟩ = some (.int .i64 m0) := later c23 f79
  have f84 : w23.cell? ⟨w6.heap.size, 1, none⟩ = some (.slice A6 n0 d6) := later c23 f80
  clear f77 f77q f78 f79 f79q f80
  have f81q : w.heap.size < w23.heap.size := World.block_lt_of_cell? _ _ f81
  have f83q : w6.heap.size < w23.heap.size := World.block_lt_of_cell? _ _ f83
  have s23 := c23.size
  have o2h''''''''''''''''''''' := Lib.hid (own_kept o2h''''''''''''''''''''.out c23)
  clear o2h''''''''''''''''''''
  have o3h'''''''''''''''''''' := Lib.hid (own_kept o3h'''''''''''''''''''.out c23)
  clear o3h'''''''''''''''''''
  have o4h''''''''''''''''''' := Lib.hid (own_kept o4h''''''''''''''''''.out c23)
  clear o4h''''''''''''''''''
  have q5_0T23 : Below w5.heap.size w5 w23 := also q5_0T22 c23
  have o16h''''''' := Lib.hid (own_kept o16h''''''.out c23)
  clear o16h''''''
  have o17h'''''' := Lib.hid (own_kept o17h'''''.out c23)
  clear o17h'''''
  have o18h''''' := Lib.hid (own_kept o18h''''.out c23)
  clear o18h''''
  have o20h''' := Lib.hid (own_kept o20h''.out c23)
  clear o20h''
  have o12h''''''''''' := Lib.hid (own_kept o12h''''''''''.out c23)
  clear o12h''''''''''
  have o14h''''''''' := Lib.hid (own_kept o14h''''''''.out c23)
  clear o14h''''''''
  have o22h' := Lib.hid (own_kept o22h.out c23)
  clear o22h
  have t23 : Below w.heap.size w w23 := also t22 c23
  have o23b := own_base (base' := w22.heap.size) o23 (by simp <;> omega)
  have o23l := Lib.hid (fun j h => World.ownsRow.lt o23b j h)
  have o23h := Lib.hid o23b
  clear o23 o23b
  go_wp2_with fail
  refine (toIntS_any x4 n4 p4 a4 _ (h4.kept t23) (by omega)).mono ?_
  rintro e w24 ⟨A24, d24, rfl, o24, b24⟩
  have c24 : Below w23.heap.size w23 w24 := b24
  have f85 : w24.cell? ⟨w.heap.size, 0, none⟩ = some (.int .i64 m0) := later c24 f81
  have f86 : w24.cell? ⟨w.heap.size, 1, none⟩ = some (.slice x0 n0 p0) := later c24 f82
  have f87 : w24.cell? ⟨w6.heap.size, 0, none⟩ = some (.int .i64 m0) := later c24 f83
  have f88 : w24.cell? ⟨w6.heap.size, 1, none⟩ = some (.slice A6 n0 d6) := later c24 f84
  clear f81 f81q f82 f83 f83q f84
  have f85q : w.heap.size < w24.heap.size := World.block_lt_of_cell? _ _ f85
  have f87q : w6.heap.size < w24.heap.size := World.block_lt_of_cell? _ _ f87
  have s24 := c24.size
  have o2h'''''''''''''''''''''' := Lib.hid (own_kept o2h'''''''''''''''''''''.out c24)
  clear o2h'''''''''''''''''''''
  have o3h''''''''''''''''''''' := Lib.hid (own_kept o3h''''''''''''''''''''.out c24)
  clear o3h''''''''''''''''''''
  have o4h'''''''''''''''''''' := Lib.hid (own_kept o4h'''''''''''''''''''.out c24)
  clear o4h'''''''''''''''''''
  have q5_0T24 : Below w5.heap.size w5 w24 := also q5_0T23 c24
  have o16h'''''''' := Lib.hid (own_kept o16h'''''''.out c24)
  clear o16h'''''''
  have o17h''''''' := Lib.hid (own_kept o17h''''''.out c24)
  clear o17h''''''
  have o18h'''''' := Lib.hid (own_kept o18h'''''.out c24)
  clear o18h'''''
  have o20h'''' := Lib.hid (own_kept o20h'''.out c24)
  clear o20h'''
  have o12h'''''''''''' := Lib.hid (own_kept o12h'''''''''''.out c24)
  clear o12h'''''''''''
  have o14h'''''''''' := Lib.hid (own_kept o14h'''''''''.out c24)
  clear o14h'''''''''
  have o22h'' := Lib.hid (own_kept o22h'.out c24)
  clear o22h'
  have o23h' := Lib.hid (own_kept o23h.out c24)
  clear o23h
  have t24 : Below w.heap.size w w24 := also t23 c24
  have o24b := own_base (base' := w23.heap.size) o24 (by simp <;> omega)
  have o24l := Lib.hid (fun j h => World.ownsRow.lt o24b j h)
  have o24h := Lib.hid o24b
  clear o24 o24b
  go_wp2_with fail
  refine (Ci.out A22 d22 A23 d23 A24 d24 _ (own_rd o22h''.out) (own_rd o23h'.out) (own_rd o24h.out) (own_fm o22h''.out) (own_fm o23h'.out) (own_fm o24h.out)).mono ?_
  rintro e w25 ⟨A25_0, d25_0, rfl, o25_0, b25⟩
  have c25 : Below w24.heap.size w24 w25 := b25
  have f89 : w25.cell? ⟨w.heap.size, 0, none⟩ = some (.int .i64 m0) := later c25 f85
  have f90 : w25.cell? ⟨w.heap.size, 1, none⟩ = some (.slice x0 n0 p0) := later c25 f86
  have f91 : w25.cell? ⟨w6.heap.size, 0, none⟩ = some (.int .i64 m0) := later c25 f87
  have f92 : w25.cell? ⟨w6.heap.size, 1, none⟩ = some (.slice A6 n0 d6) := later c25 f88
  clear f85 f85q f86 f87 f87q f88
  have f89q : w.heap.size < w25.heap.size := World.block_lt_of_cell? _ _ f89
  have f91q : w6.heap.size < w25.heap.size := World.block_lt_of_cell? _ _ f91
  have s25 := c25.size
  have o2h''''''''''''''''''''''' := Lib.hid (own_kept o2h''''''''''''''''''''''.out c25)
  clear o2h''''''''''''''''''''''
  have o3h'''''''''''''''''''''' := Lib.hid (own_kept o3h'''''''''''''''''''''.out c25)
  clear o3h'''''''''''''''''''''
  have o4h''''''''''''''''''''' := Lib.hid (own_kept o4h''''''''''''''''''''.out c25)
  clear o4h''''''''''''''''''''
  have q5_0T25 : Below w5.heap.size w5 w25 := also q5_0T24 c25
  have o16h''''''''' := Lib.hid (own_kept o16h''''''''.out c25)
  clear o16h''''''''
  have o17h'''''''' := Lib.hid (own_kept o17h'''''''.out c25)
  clear o17h'''''''
  have o18h''''''' := Lib.hid (own_kept o18h''''''.out c25)
  clear o18h''''''
  have o20h''''' := Lib.hid (own_kept o20h''''.out c25)
  clear o20h''''
  have o12h''''''''''''' := Lib.hid (own_kept o12h''''''''''''.out c25)
  clear o12h''''''''''''
  have o14h''''''''''' := Lib.hid (own_kept o14h''''''''''.out c25)
  clear o14h''''''''''
  have o22h''' := Lib.hid (own_kept o22h''.out c25)
  clear o22h''
  have o23h'' := Lib.hid (own_kept o23h'.out c25)
  clear o23h'
  have o24h' := Lib.hid (own_kept o24h.out c25)
  clear o24h
  have t25 : Below w.heap.size w w25 := also t24 c25
  have o25_0b := own_base (base' := w24.heap.size) o25_0 (by simp <;> omega)
  have o25_0l := Lib.hid (fun j h => World.ownsRow.lt o25_0b j h)
  have o25_0h := Lib.hid o25_0b
  clear o25_0 o25_0b
  go_wp2_with fail
  refine (eqIntS_below A25_0 A5_0 v0n d25_0 d5_0 v0 _ (own_rd o25_0h.out) (o5_0h.out.kept q5_0T25) (by omega)).mono ?_
  rintro e w26 ⟨rfl, b26⟩
  have c26 : Below w25.heap.size w25 w26 := b26
  have f93 : w26.cell? ⟨w.heap.size, 0, none⟩ = some (.int .i64 m0) := later c26 f89
  have f94 : w26.cell? ⟨w.heap.size, 1, none⟩ = some (.slice x0 n0 p0) := later c26 f90
  have f95 : w26.cell? ⟨w6.heap.size, 0, none⟩ = some (.int .i64 m0) := later c26 f91
  have f96 : w26.cell? ⟨w6.heap.size, 1, none⟩ = some (.slice A6 n0 d6) := later c26 f92
  clear f89 f89q f90 f91 f91q f92
  have f93q : w.heap.size < w26.heap.size := World.block_lt_of_cell? _ _ f93
  have f95q : w6.heap.size < w26.heap.size := World.block_lt_of_cell? _ _ f95
  have s26 := c26.size
  have o2h'''''''''''''''''''''''' := Lib.hid (own_kept o2h'''''''''''''''''''''''.out c26)
  clear o2h'''''''''''''''''''''''
  have o3h''''''''''''''''''''''' := Lib.hid (own_kept o3h''''''''''''''''''''''.out c26)
  clear o3h''''''''''''''''''''''
  have o4h'''''''''''''''''''''' := Lib.hid (own_kept o4h'''''''''''''''''''''.out c26)
  clear o4h'''''''''''''''''''''
  have q5_0T26 : Below w5.heap.size w5 w26 := also q5_0T25 c26
  have o16h'''''''''' := Lib.hid (own_kept o16h'''''''''.out c26)
  clear o16h'''''''''
  have o17h''''''''' := Lib.hid (own_kept o17h''''''''.out c26)
  clear o17h''''''''
  have o18h'''''''' := Lib.hid (own_kept o18h'''''''.out c26)
  clear o18h'''''''
  have o20h'''''' := Lib.hid (own_kept o20h'''''.out c26)
  clear o20h'''''
  have o12h'''''''''''''' := Lib.hid (own_kept o12h'''''''''''''.out c26)
  clear o12h'''''''''''''
  have o14h'''''''''''' := Lib.hid (own_kept o14h'''''''''''.out c26)
  clear o14h'''''''''''
  have o22h'''' := Lib.hid (own_kept o22h'''.out c26)
  clear o22h'''
  have o23h''' := Lib.hid (own_kept o23h''.out c26)
  clear o23h''
  have o24h'' := Lib.hid (own_kept o24h'.out c26)
  clear o24h'
  have o25_0h' := Lib.hid (own_kept o25_0h.out c26)
  clear o25_0h
  have t26 : Below w.heap.size w w26 := also t25 c26
  go_wp2_with fail
  refine (heldIntS_below A9_0 v0n d9_0 _ _ (own_rd o20h''''''.out) (by omega) (by omega) (by omega)).mono ?_
  rintro e w27 ⟨rfl, b27⟩
  have c27 : Below w26.heap.size w26 w27 := b27
  have f97 : w27.cell? ⟨w.heap.size, 0, none⟩ = some (.int .i64 m0) := later c27 f93
  have f98 : w27.cell? ⟨w.heap.size, 1, none⟩ = some (.slice x0 n0 p0) := later c27 f94
  have f99 : w27.cell? ⟨w6.heap.size, 0, none⟩ = some (.int .i64 m0) := later c27 f95
  have f100 : w27.cell? ⟨w6.heap.size, 1, none⟩ = some (.slice A6 n0 d6) := later c27 f96
  clear f93 f93q f94 f95 f95q f96
  have f97q : w.heap.size < w27.heap.size := World.block_lt_of_cell? _ _ f97
  have f99q : w6.heap.size < w27.heap.size := World.block_lt_of_cell? _ _ f99
  have s27 := c27.size
  have o2h''''''''''''''''''''''''' := Lib.hid (own_kept o2h''''''''''''''''''''''''.out c27)
  clear o2h''''''''''''''''''''''''
  have o3h'''''''''''''''''''''''' := Lib.hid (own_kept o3h'''''''''''''''''''''''.out c27)
  clear o3h'''''''''''''''''''''''
  have o4h''''''''''''''''''''''' := Lib.hid (own_kept o4h''''''''''''''''''''''.out c27)
  clear o4h''''''''''''''''''''''
  have q5_0T27 : Below w5.heap.size w5 w27 := also q5_0T26 c27
  have o16h''''''''''' := Lib.hid (own_kept o16h''''''''''.out c27)
  clear o16h''''''''''
  have o17h'''''''''' := Lib.hid (own_kept o17h'''''''''.out c27)
  clear o17h'''''''''
  have o18h''''''''' := Lib.hid (own_kept o18h''''''''.out c27)
  clear o18h''''''''
  have o20h''''''' := Lib.hid (own_kept o20h''''''.out c27)
  clear o20h''''''
  have o12h''''''''''''''' := Lib.hid (own_kept o12h''''''''''''''.out c27)
  clear o12h''''''''''''''
  have o14h''''''''''''' := Lib.hid (own_kept o14h''''''''''''.out c27)
  clear o14h''''''''''''
  have o22h''''' := Lib.hid (own_kept o22h''''.out c27)
  clear o22h''''
  have o23h'''' := Lib.hid (own_kept o23h'''.out c27)
  clear o23h'''
  have o24h''' := Lib.hid (own_kept o24h''.out c27)
  clear o24h''
  have o25_0h'' := Lib.hid (own_kept o25_0h'.out c27)
  clear o25_0h'
  have t27 : Below w.heap.size w w27 := also t26 c27
  go_wp2_with fail
  all_goals go_ret
  all_goals exact ⟨rfl, t27⟩

end Go.Proofs.Ytnfmdkbelbppdaa
