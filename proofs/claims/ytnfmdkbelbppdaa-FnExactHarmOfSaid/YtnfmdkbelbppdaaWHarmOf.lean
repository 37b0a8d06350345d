/- The walk of the law FnExactHarmOf. -/
import Derived.Test.YtnfmdkbelbppdaaPlan
import Derived.Test.YtnfmdkbelbppdaaNetH
import Derived.Test.YtnfmdkbelbppdaaValves
import Derived.Test.YtnfmdkbelbppdaaIntsTo
import Derived.Test.YtnfmdkbelbppdaaRows
import Derived.Deep.RegionHeld3
namespace Go.Proofs.Ytnfmdkbelbppdaa
open Go.RowKit
set_option linter.unusedVariables false

set_option maxRecDepth 100000 in
set_option maxHeartbeats 2000000 in
theorem w_FnExactHarmOf (m0 : Int) (x0 : Option Addr) (n0 p0 : Nat) (a0 : List Pp) (x1 : Option Addr) (n1 p1 : Nat) (a1 : List Vv) (a2 : Int) (_k2 : wf64 a2) (a3 : Int) (_k3 : wf64 a3) (x4 : Option Addr) (n4 p4 : Nat) (a4 : List Int) (x5 : Option Addr) (n5 p5 : Nat) (a5 : List Int) (w : World) (H0 : wf64 m0 ∧ a0.length = n0 ∧ Rd w 4 x0 n0 (pipesV a0) ∧ n0 ≤ maxLen ∧ ∀ p ∈ a0, p.wf) (H1 : a1.length = n1 ∧ Rd w 4 x1 n1 (valvesV a1) ∧ n1 ≤ maxLen ∧ ∀ p ∈ a1, p.wf) (H4 : a4.length = n4 ∧ Rd w 1 x4 n4 (intsV a4) ∧ n4 ≤ maxLen ∧ ∀ n ∈ a4, wf64 n) (H5 : a5.length = n5 ∧ Rd w 1 x5 n5 (intsV a5) ∧ n5 ≤ maxLen ∧ ∀ n ∈ a5, wf64 n) :
    Calls Try.prog 5 #[.agg #[.int .i64 m0, .slice x0 n0 p0], .slice x1 n1 p1, .int .i64 a2, .int .i64 a3, .slice x4 n4 p4, .slice x5 n5 p5] w fun e w' => e = .returned (.bool true) ∧ Below w.heap.size w w' := by
  obtain ⟨_, _, h0, z0, _⟩ := H0
  unfold maxLen at z0
  obtain ⟨_, h1, z1, _⟩ := H1
  unfold maxLen at z1
  obtain ⟨_, h4, z4, _⟩ := H4
  unfold maxLen at z4
  obtain ⟨_, h5, z5, _⟩ := H5
  unfold maxLen at z5
  by_cases e4 : n4 ≤ 1048576
  rotate_left
  · go_enter Try.func5, Try.ntmps5
    go_wp2_with fail
    all_goals go_ret
    all_goals exact ⟨rfl, (below_a1 _ _)⟩
  by_cases e5 : n5 ≤ 1048576
  rotate_left
  · go_enter Try.func5, Try.ntmps5
    go_wp2_with fail
    all_goals go_ret
    all_goals exact ⟨rfl, (below_a1 _ _)⟩
  by_cases e0 : (n0 : Int) ≤ 1048576
  rotate_left
  · have E0 := Lib.hid (szL_neg e0)
    go_enter Try.func5, Try.ntmps5
    go_wp2_with fail
    refine (szNetwork_any m0 x0 n0 p0 a0 (1048576) _ (h0.kept (below_a1 _ _)) (by omega) (by omega) (by omega)).mono ?_
    rintro e w1 ⟨rfl, b1⟩
    have c1 : Below w.heap.size w w1 := below_step (below_a1 _ _) b1 (by simp <;> omega)
    have f1 : w1.cell? ⟨w.heap.size, 0, none⟩ = some (.int .i64 m0) := (keeps b1 _ _ (by simp <;> omega)).trans (by simp [go_sem])
    have f2 : w1.cell? ⟨w.heap.size, 1, none⟩ = some (.slice x0 n0 p0) := (keeps b1 _ _ (by simp <;> omega)).trans (by simp [go_sem])
    have f1q : w.heap.size < w1.heap.size := World.block_lt_of_cell? _ _ f1
    have s1 : w.heap.size + 1 ≤ w1.heap.size := by have := b1.size; simp at this; omega
    have t1 : Below w.heap.size w w1 := c1
    rw [E0.out]
    go_wp2_with fail
    all_goals go_ret
    all_goals exact ⟨rfl, t1⟩
  by_cases e1 : (n1 : Int) ≤ 1048576 - (n0 : Int)
  rotate_left
  · have E0 := Lib.hid (szL_pos e0)
    have E1 := Lib.hid (szL_neg e1)
    go_enter Try.func5, Try.ntmps5
    go_wp2_with fail
    refine (szNetwork_any m0 x0 n0 p0 a0 (1048576) _ (h0.kept (below_a1 _ _)) (by omega) (by omega) (by omega)).mono ?_
    rintro e w1 ⟨rfl, b1⟩
    have c1 : Below w.heap.size w w1 := below_step (below_a1 _ _) b1 (by simp <;> omega)
    have f3 : w1.cell? ⟨w.heap.size, 0, none⟩ = some (.int .i64 m0) := (keeps b1 _ _ (by simp <;> omega)).trans (by simp [go_sem])
    have f4 : w1.cell? ⟨w.heap.size, 1, none⟩ = some (.slice x0 n0 p0) := (keeps b1 _ _ (by simp <;> omega)).trans (by simp [go_sem])
    have f3q : w.heap.size < w1.heap.size := World.block_lt_of_cell? _ _ f3
    have s1 : w.heap.size + 1 ≤ w1.heap.size := by have := b1.size; simp at this; omega
    have t1 : Below w.heap.size w w1 := c1
    rw [E0.out]
    go_wp2_with fail
    refine (szValveS_any x1 n1 p1 (1048576 - (n0 : Int)) _ (by omega) (by omega) (by omega)).mono ?_
    rintro e w' ⟨rfl, rfl⟩
    rw [E1.out]
    go_wp2_with fail
    all_goals go_ret
    all_goals exact ⟨rfl, t1⟩
  have cs := fun (A0 : Option Addr) (d0 : Nat) (A1 : Option Addr) (d1 : Nat) (A4 : Option Addr) (d4 : Nat) (A5 : Option Addr) (d5 : Nat) (W : World) (H0 : Rd W 4 A0 n0 (pipesV a0)) (H1 : Rd W 4 A1 n1 (valvesV a1)) (H4 : Rd W 1 A4 n4 (intsV a4)) (H5 : Rd W 1 A5 n5 (intsV a5)) (F0 : Fm A0 n0 d0) (F1 : Fm A1 n1 d1) (F4 : Fm A4 n4 d4) (F5 : Fm A5 n5 d5) => HarmOf_spec m0 A0 n0 d0 a0 A1 n1 d1 a1 a2 a3 A4 n4 d4 a4 A5 n5 d5 a5 W H0 H1 H4 H5 (by omega) (by omega) (by omega) (by omega) F0 F1 F4 F5
  have ci := fun (A0 : Option Addr) (d0 : Nat) (A1 : Option Addr) (d1 : Nat) (A4 : Option Addr) (d4 : Nat) (A5 : Option Addr) (d5 : Nat) (W : World) (H0 : Rd W 4 A0 n0 (pipesV a0)) (H1 : Rd W 4 A1 n1 (valvesV a1)) (H4 : Rd W 1 A4 n4 (intsV a4)) (H5 : Rd W 1 A5 n5 (intsV a5)) (F0 : Fm A0 n0 d0) (F1 : Fm A1 n1 d1) (F4 : Fm A4 n4 d4) (F5 : Fm A5 n5 d5) => HarmOf_impl m0 A0 n0 d0 a0 A1 n1 d1 a1 a2 a3 A4 n4 d4 a4 A5 n5 d5 a5 W H0 H1 H4 H5 (by omega) (by omega) (by omega) (by omega) F0 F1 F4 F5
  generalize HarmOf_v0 m0 a0 a1 a2 a3 a4 a5 = v0 at cs ci
  generalize HarmOf_v1 m0 a0 a1 a2 a3 a4 a5 = v1 at cs ci
  have Cs := Lib.hid cs
  have Ci := Lib.hid ci
  clear cs ci
  have E0 := Lib.hid (szL_pos e0)
  have E1 := Lib.hid (szL_pos e1)
  go_enter Try.func5, Try.ntmps5
  go_wp2_with fail
  refine (szNetwork_any m0 x0 n0 p0 a0 (1048576) _ (h0.kept (below_a1 _ _)) (by omega) (by omega) (by omega)).mono ?_
  rintro e w1 ⟨rfl, b1⟩
  have c1 : Below w.heap.size w w1 := below_step (below_a1 _ _) b1 (by simp <;> omega)
  have f5 : w1.cell? ⟨w.heap.size, 0, none⟩ = some (.int .i64 m0) := (keeps b1 _ _ (by simp <;> omega)).trans (by simp [go_sem])
  have f6 : w1.cell? ⟨w.heap.size, 1, none⟩ = some (.slice x0 n0 p0) := (keeps b1 _ _ (by simp <;> omega)).trans (by simp [go_sem])
  have f5q : w.heap.size < w1.heap.size := World.block_lt_of_cell? _ _ f5
  have s1 : w.heap.size + 1 ≤ w1.heap.size := by have := b1.size; simp at this; omega
  have t1 : Below w.heap.size w w1 := c1
  rw [E0.out]
  go_wp2_with fail
  refine (szValveS_any x1 n1 p1 (1048576 - (n0 : Int)) _ (by omega) (by omega) (by omega)).mono ?_
  rintro e w' ⟨rfl, rfl⟩
  rw [E1.out]
  go_wp2_with fail
  refine (toNetwork_any m0 x0 n0 p0 a0 _ (h0.kept t1) (by omega)).mono ?_
  rintro e w2 ⟨A2, d2, rfl, o2, b2⟩
  have c2 : Below w1.heap.size w1 w2 := b2
  have f7 : w2.cell? ⟨w.heap.size, 0, none⟩ = some (.int .i64 m0) := later c2 f5
  have f8 : w2.cell? ⟨w.heap.size, 1, none⟩ = some (.slice x0 n0 p0) := later c2 f6
  clear f5 f5q f6
  have f7q : w.heap.size < w2.heap.size := World.block_lt_of_cell? _ _ f7
  have s2 := c2.size
  have t2 : Below w.heap.size w w2 := also t1 c2
  have o2b := own_base (base' := w1.heap.size) o2 (by simp <;> omega)
  have o2l := Lib.hid (fun j h => World.ownsRow.lt o2b j h)
  have o2h := Lib.hid o2b
  clear o2 o2b
  go_wp2_with fail
  refine (toValveS_any x1 n1 p1 a1 _ (h1.kept t2) (by omega)).mono ?_
  rintro e w3 ⟨A3, d3, rfl, o3, b3⟩
  have c3 : Below w2.heap.size w2 w3 := b3
  have f9 : w3.cell? ⟨w.heap.size, 0, none⟩ = some (.int .i64 m0) := later c3 f7
  have f10 : w3.cell? ⟨w.heap.size, 1, none⟩ = some (.slice x0 n0 p0) := later c3 f8
  clear f7 f7q f8
  have f9q : w.heap.size < w3.heap.size := World.block_lt_of_cell? _ _ f9
  have s3 := c3.size
  have o2h' := Lib.hid (own_kept o2h.out c3)
  clear o2h
  have t3 : Below w.heap.size w w3 := also t2 c3
  have o3b := own_base (base' := w2.heap.size) o3 (by simp <;> omega)
  have o3l := Lib.hid (fun j h => World.ownsRow.lt o3b j h)
  have o3h := Lib.hid o3b
  clear o3 o3b
  go_wp2_with fail
  refine (toIntS_any x4 n4 p4 a4 _ (h4.kept t3) (by omega)).mono ?_
  rintro e w4 ⟨A4, d4, rfl, o4, b4⟩
  have c4 : Below w3.heap.size w3 w4 := b4
  have f11 : w4.cell? ⟨w.heap.size, 0, none⟩ = some (.int .i64 m0) := later c4 f9
  have f12 : w4.cell? ⟨w.heap.size, 1, none⟩ = some (.slice x0 n0 p0) := later c4 f10
  clear f9 f9q f10
  have f11q : w.heap.size < w4.heap.size := World.block_lt_of_cell? _ _ f11
  have s4 := c4.size
  have o2h'' := Lib.hid (own_kept o2h'.out c4)
  clear o2h'
  have o3h' := Lib.hid (own_kept o3h.out c4)
  clear o3h
  have t4 : Below w.heap.size w w4 := also t3 c4
  have o4b := own_base (base' := w3.heap.size) o4 (by simp <;> omega)
  have o4l := Lib.hid (fun j h => World.ownsRow.lt o4b j h)
  have o4h := Lib.hid o4b
  clear o4 o4b
  go_wp2_with fail
  refine (toIntS_any x5 n5 p5 a5 _ (h5.kept t4) (by omega)).mono ?_
  rintro e w5 ⟨A5, d5, rfl, o5, b5⟩
  have c5 : Below w4.heap.size w4 w5 := b5
  have f13 : w5.cell? ⟨w.heap.size, 0, none⟩ = some (.int .i64 m0) := later c5 f11
  have f14 : w5.cell? ⟨w.heap.size, 1, none⟩ = some (.slice x0 n0 p0) := later c5 f12
  clear f11 f11q f12
  have f13q : w.heap.size < w5.heap.size := World.block_lt_of_cell? _ _ f13
  have s5 := c5.size
  have o2h''' := Lib.hid (own_kept o2h''.out c5)
  clear o2h''
  have o3h'' := Lib.hid (own_kept o3h'.out c5)
  clear o3h'
  have o4h' := Lib.hid (own_kept o4h.out c5)
  clear o4h
  have t5 : Below w.heap.size w w5 := also t4 c5
  have o5b := own_base (base' := w4.heap.size) o5 (by simp <;> omega)
  have o5l := Lib.hid (fun j h => World.ownsRow.lt o5b j h)
  have o5h := Lib.hid o5b
  clear o5 o5b
  go_wp2_with fail
  refine (Cs.out A2 d2 A3 d3 A4 d4 A5 d5 _ (own_rd o2h'''.out) (own_rd o3h''.out) (own_rd o4h'.out) (own_rd o5h.out) (own_fm o2h'''.out) (own_fm o3h''.out) (own_fm o4h'.out) (own_fm o5h.out)).mono ?_
  rintro e w6 ⟨rfl, b6⟩
  have c6 : Below w5.heap.size w5 w6 := b6
  have f15 : w6.cell? ⟨w.heap.size, 0, none⟩ = some (.int .i64 m0) := later c6 f13
  have f16 : w6.cell? ⟨w.heap.size, 1, none⟩ = some (.slice x0 n0 p0) := later c6 f14
  clear f13 f13q f14
  have f15q : w.heap.size < w6.heap.size := World.block_lt_of_cell? _ _ f15
  have s6 := c6.size
  have o2h'''' := Lib.hid (own_kept o2h'''.out c6)
  clear o2h'''
  have o3h''' := Lib.hid (own_kept o3h''.out c6)
  clear o3h''
  have o4h'' := Lib.hid (own_kept o4h'.out c6)
  clear o4h'
  have o5h' := Lib.hid (own_kept o5h.out c6)
  clear o5h
  have t6 : Below w.heap.size w w6 := also t5 c6
  go_wp2_with fail
  refine (toNetwork_any m0 x0 n0 p0 a0 _ (h0.kept t6) (by omega)).mono ?_
  rintro e w7 ⟨A7, d7, rfl, o7, b7⟩
  have c7 : Below w6.heap.size w6 w7 := b7
  have f17 : w7.cell? ⟨w.heap.size, 0, none⟩ = some (.int .i64 m0) := later c7 f15
  have f18 : w7.cell? ⟨w.heap.size, 1, none⟩ = some (.slice x0 n0 p0) := later c7 f16
  clear f15 f15q f16
  have f17q : w.heap.size < w7.heap.size := World.block_lt_of_cell? _ _ f17
  have s7 := c7.size
  have o2h''''' := Lib.hid (own_kept o2h''''.out c7)
  clear o2h''''
  have o3h'''' := Lib.hid (own_kept o3h'''.out c7)
  clear o3h'''
  have o4h''' := Lib.hid (own_kept o4h''.out c7)
  clear o4h''
  have o5h'' := Lib.hid (own_kept o5h'.out c7)
  clear o5h'
  have t7 : Below w.heap.size w w7 := also t6 c7
  have o7b := own_base (base' := w6.heap.size) o7 (by simp <;> omega)
  have o7l := Lib.hid (fun j h => World.ownsRow.lt o7b j h)
  have o7h := Lib.hid o7b
  clear o7 o7b
  go_wp2_with fail
  refine (toValveS_any x1 n1 p1 a1 _ (h1.kept (below_step t7 (below_a1 _ _) (Nat.le_refl _))) (by omega)).mono ?_
  rintro e w8 ⟨A8, d8, rfl, o8, b8⟩
  have c8 : Below w7.heap.size w7 w8 := below_step (below_a1 _ _) b8 (by simp <;> omega)
  have f19 : w8.cell? ⟨w.heap.size, 0, none⟩ = some (.int .i64 m0) := later c8 f17
  have f20 : w8.cell? ⟨w.heap.size, 1, none⟩ = some (.slice x0 n0 p0) := later c8 f18
  have f21 : w8.cell? ⟨w7.heap.size, 0, none⟩ = some (.int .i64 m0) := (keeps b8 _ _ (by simp <;> omega)).trans (by simp [go_sem])
  have f22 : w8.cell? ⟨w7.heap.size, 1, none⟩ = some (.slice A7 n0 d7) := (keeps b8 _ _ (by simp <;> omega)).trans (by simp [go_sem])
  clear f17 f17q f18
  have f19q : w.heap.size < w8.heap.size := World.block_lt_of_cell? _ _ f19
  have f21q : w7.heap.size < w8.heap.size := World.block_lt_of_cell? _ _ f21
  have s8 : w7.heap.size + 1 ≤ w8.heap.size := by have := b8.size; simp at this; omega
  have o2h'''''' := Lib.hid (own_kept o2h'''''.out c8)
  clear o2h'''''
  have o3h''''' := Lib.hid (own_kept o3h''''.out c8)
  clear o3h''''
  have o4h'''' := Lib.hid (own_kept o4h'''.out c8)
  clear o4h'''
  have o5h''' := Lib.hid (own_kept o5h''.out c8)
  clear o5h''
  have o7h' := Lib.hid (own_kept o7h.out c8)
  clear o7h
  have t8 : Below w.heap.size w w8 := also t7 c8
  have o8b := own_base (base' := w7.heap.size + 1) o8 (by simp <;> omega)
  have o8l := Lib.hid (fun j h => World.ownsRow.lt o8b j h)
  have o8h := Lib.hid o8b
  clear o8 o8b
  go_wp2_with fail
  refine (toIntS_any x4 n4 p4 a4 _ (h4.kept t8) (by omega)).mono ?_
  rintro e w9 ⟨A9, d9, rfl, o9, b9⟩
  have c9 : Below w8.heap.size w8 w9 := b9
  have f23 : w9.cell? ⟨w.heap.size, 0, none⟩ = some (.int .i64 m0) := later c9 f19
  have f24 : w9.cell? ⟨w.heap.size, 1, none⟩ = some (.slice x0 n0 p0) := later c9 f20
  have f25 : w9.cell? ⟨w7.heap.size, 0, none⟩ = some (.int .i64 m0) := later c9 f21
  have f26 : w9.cell? ⟨w7.heap.size, 1, none⟩ = some (.slice A7 n0 d7) := later c9 f22
  clear f19 f19q f20 f21 f21q f22
  have f23q : w.heap.size < w9.heap.size := World.block_lt_of_cell? _ _ f23
  have f25q : w7.heap.size < w9.heap.size := World.block_lt_of_cell? _ _ f25
  have s9 := c9.size
  have o2h''''''' := Lib.hid (own_kept o2h''''''.out c9)
  clear o2h''''''
  have o3h'''''' := Lib.hid (own_kept o3h'''''.out c9)
  clear o3h'''''
  have o4h''''' := Lib.hid (own_kept o4h''''.out c9)
  clear o4h''''
  have o5h'''' := Lib.hid (own_kept o5h'''.out c9)
  clear o5h'''
  have o7h'' := Lib.hid (own_kept o7h'.out c9)
  clear o7h'
  have o8h' := Lib.hid (own_kept o8h.out c9)
  clear o8h
  have t9 : Below w.heap.size w w9 := also t8 c9
  have o9b := own_base (base' := w8.heap.size) o9 (by simp <;> omega)
  have o9l := Lib.hid (fun j h => World.ownsRow.lt o9b j h)
  have o9h := Lib.hid o9b
  clear o9 o9b
  go_wp2_with fail
  refine (toIntS_any x5 n5 p5 a5 _ (h5.kept t9) (by omega)).mono ?_
  rintro e w10 ⟨A10, d10, rfl, o10, b10⟩
  have c10 : Below w9.heap.size w9 w10 := b10
  have f27 : w10.cell? ⟨w.heap.size, 0, none⟩ = some (.int .i64 m0) := later c10 f23
  have f28 : w10.cell? ⟨w.heap.size, 1, none⟩ = some (.slice x0 n0 p0) := later c10 f24
  have f29 : w10.cell? ⟨w7.heap.size, 0, none⟩ = some (.int .i64 m0) := later c10 f25
  have f30 : w10.cell? ⟨w7.heap.size, 1, none⟩ = some (.slice A7 n0 d7) := later c10 f26
  clear f23 f23q f24 f25 f25q f26
  have f27q : w.heap.size < w10.heap.size := World.block_lt_of_cell? _ _ f27
  have f29q : w7.heap.size < w10.heap.size := World.block_lt_of_cell? _ _ f29
  have s10 := c10.size
  have o2h'''''''' := Lib.hid (own_kept o2h'''''''.out c10)
  clear o2h'''''''
  have o3h''''''' := Lib.hid (own_kept o3h''''''.out c10)
  clear o3h''''''
  have o4h'''''' := Lib.hid (own_kept o4h'''''.out c10)
  clear o4h'''''
  have o5h''''' := Lib.hid (own_kept o5h''''.out c10)
  clear o5h''''
  have o7h''' := Lib.hid (own_kept o7h''.out c10)
  clear o7h''
  have o8h'' := Lib.hid (own_kept o8h'.out c10)
  clear o8h'
  have o9h' := Lib.hid (own_kept o9h.out c10)
  clear o9h
  have t10 : Below w.heap.size w w10 := also t9 c10
  have o10b := own_base (base' := w9.heap.size) o10 (by simp <;> omega)
  have o10l := Lib.hid (fun j h => World.ownsRow.lt o10b j h)
  have o10h := Lib.hid o10b
  clear o10 o10b
  go_wp2_with fail
  refine (Ci.out A7 d7 A8 d8 A9 d9 A10 d10 _ (own_rd o7h'''.out) (own_rd o8h''.out) (own_rd o9h'.out) (own_rd o10h.out) (own_fm o7h'''.out) (own_fm o8h''.out) (own_fm o9h'.out) (own_fm o10h.out)).mono ?_
  rintro e w11 ⟨rfl, b11⟩
  have c11 : Below w10.heap.size w10 w11 := b11
  have f31 : w11.cell? ⟨w.heap.size, 0, none⟩ = some (.int .i64 m0) := later c11 f27
  have f32 : w11.cell? ⟨w.heap.size, 1, none⟩ = some (.slice x0 n0 p0) := later c11 f28
  have f33 : w11.cell? ⟨w7.heap.size, 0, none⟩ = some (.int .i64 m0) := later c11 f29
  have f34 : w11.cell? ⟨w7.heap.size, 1, none⟩ = some (.slice A7 n0 d7) := later c11 f30
  clear f27 f27q f28 f29 f29q f30
  have f31q : w.heap.size < w11.heap.size := World.block_lt_of_cell? _ _ f31
  have f33q : w7.heap.size < w11.heap.size := World.block_lt_of_cell? _ _ f33
  have s11 := c11.size
  have o2h''''''''' := Lib.hid (own_kept o2h''''''''.out c11)
  clear o2h''''''''
  have o3h'''''''' := Lib.hid (own_kept o3h'''''''.out c11)
  clear o3h'''''''
  have o4h''''''' := Lib.hid (own_kept o4h''''''.out c11)
  clear o4h''''''
  have o5h'''''' := Lib.hid (own_kept o5h'''''.out c11)
  clear o5h'''''
  have o7h'''' := Lib.hid (own_kept o7h'''.out c11)
  clear o7h'''
  have o8h''' := Lib.hid (own_kept o8h''.out c11)
  clear o8h''
  have o9h'' := Lib.hid (own_kept o9h'.out c11)
  clear o9h'
  have o10h' := Lib.hid (own_kept o10h.out c11)
  clear o10h
  have t11 : Below w.heap.size w w11 := also t10 c11
  go_wp2_with fail
  have Hx := Lib.hid (fun W' (hW : Below w11.heap.size w11 W') => toNetwork_any m0 x0 n0 p0 a0 W' (h0.kept (also t11 hW)) (by omega))
  have Hr := Lib.hid (own_rd o7h''''.out)
  go_region_held3 (fun w' => w'.cell? ⟨w7.heap.size, 0, none⟩ = some (.int .i64 m0) ∧ w'.cell? ⟨w7.heap.size, 1, none⟩ = some (.slice A7 n0 d7) ∧ w'.cell? ⟨w.heap.size, 0, none⟩ = some (.int .i64 m0) ∧ w'.cell? ⟨w.heap.size, 1, none⟩ = some (.slice x0 n0 p0) ∧ Below w11.heap.size w11 w') (first | (go_split_ands; refine held4 f33 f34 f31 f32 ?_; first | exact (Below.refl _ _).drew | exact also (by assumption) (by assumption) | exact below_drewN (by assumption) _)) (first | (go_at_call 16; (with_reducible refine (Hx.out _ (by first | exact (Below.refl _ _).drew | (go_split_ands; assumption))).mono ?_); rintro e w12 ⟨A12, d12, rfl, o12, b12⟩; have O12 := Lib.hid (own_rd o12); clear o12) | (go_at_call 20; refine (eqNetwork_below m0 A7 A12 n0 d7 d12 a0 _ (Hr.out.kept (by go_split_ands; assumption)) O12.out (by omega)).mono ?_; rintro e w12x ⟨rfl, b12x⟩))
  rename_i hS
  have b12y := hS.2.2.2.2
  clear hS Hx Hr
  have c12x : Below w11.heap.size w11 w12x := b12y
  have f35 : w12x.cell? ⟨w.heap.size, 0, none⟩ = some (.int .i64 m0) := later c12x f31
  have f36 : w12x.cell? ⟨w.heap.size, 1, none⟩ = some (.slice x0 n0 p0) := later c12x f32
  have f37 : w12x.cell? ⟨w7.heap.size, 0, none⟩ = some (.int .i64 m0) := later c12x f33
  have f38 : w12x.cell? ⟨w7.heap.size, 1, none⟩ = some (.slice A7 n0 d7) := later c12x f34
  clear f31 f31q f32 f33 f33q f34
  have f35q : w.heap.size < w12x.heap.size := World.block_lt_of_cell? _ _ f35
  have f37q : w7.heap.size < w12x.heap.size := World.block_lt_of_cell? _ _ f37
  have s12x := c12x.size
  have o2h'''''''''' := Lib.hid (own_kept o2h'''''''''.out c12x)
  clear o2h'''''''''
  have o3h''''''''' := Lib.hid (own_kept o3h''''''''.out c12x)
  clear o3h''''''''
  have o4h'''''''' := Lib.hid (own_kept o4h'''''''.out c12x)
  clear o4h'''''''
  have o5h''''''' := Lib.hid (own_kept o5h''''''.out c12x)
  clear o5h''''''
  have o7h''''' := Lib.hid (own_kept o7h''''.out c12x)
  clear o7h''''
  have o8h'''' := Lib.hid (own_kept o8h'''.out c12x)
  clear o8h'''
  have o9h''' := Lib.hid (own_kept o9h''.out c12x)
  clear o9h''
  have o10h'' := Lib.hid (own_kept o10h'.out c12x)
  clear o10h'
  have t12x : Below w.heap.size w w12x := also t11 c12x
  go_wp2_with fail
  refine (toValveS_any x1 n1 p1 a1 _ (h1.kept t12x) (by omega)).mono ?_
  rintro e w13 ⟨A13, d13, rfl, o13, b13⟩
  have c13 : Below w12x.heap.size w12x w13 := b13
  have f39 : w13.cell? ⟨w.heap.size, 0, none⟩ = some (.int .i64 m0) := later c13 f35
  have f40 : w13.cell? ⟨w.heap.size, 1, none⟩ = some (.slice x0 n0 p0) := later c13 f36
  have f41 : w13.cell? ⟨w7.heap.size, 0, none⟩ = some (.int .i64 m0) := later c13 f37
  have f42 : w13.cell? ⟨w7.heap.size, 1, none⟩ = some (.slice A7 n0 d7) := later c13 f38
  clear f35 f35q f36 f37 f37q f38
  have f39q : w.heap.size < w13.heap.size := World.block_lt_of_cell? _ _ f39
  have f41q : w7.heap.size < w13.heap.size := World.block_lt_of_cell? _ _ f41
  have s13 := c13.size
  have o2h''''''''''' := Lib.hid (own_kept o2h''''''''''.out c13)
  clear o2h''''''''''
  have o3h'''''''''' := Lib.hid (own_kept o3h'''''''''.out c13)
  clear o3h'''''''''
  have o4h''''''''' := Lib.hid (own_kept o4h''''''''.out c13)
  clear o4h''''''''
  have o5h'''''''' := Lib.hid (own_kept o5h'''''''.out c13)
  clear o5h'''''''
  have o7h'''''' := Lib.hid (own_kept o7h'''''.out c13)
  clear o7h'''''
  have o8h''''' := Lib.hid (own_kept o8h''''.out c13)
  clear o8h''''
  have o9h'''' := Lib.hid (own_kept o9h'''.out c13)
  clear o9h'''
  have o10h''' := Lib.hid (own_kept o10h''.out c13)
  clear o10h''
  have t13 : Below w.heap.size w w13 := also t12x c13
  have o13b := own_base (base' := w12x.heap.size) o13 (by simp <;> omega)
  have o13l := Lib.hid (fun j h => World.ownsRow.lt o13b j h)
  have o13h := Lib.hid o13b
  clear o13 o13b
  go_wp2_with fail
  refine (eqValveS_below A8 A13 n1 d8 d13 a1 _ (own_rd o8h'''''.out) (own_rd o13h.out) (by omega)).mono ?_
  rintro e w14 ⟨rfl, b14⟩
  have c14 : Below w13.heap.size w13 w14 := b14
  have f43 : w14.cell? ⟨w.heap.size, 0, none⟩ = some (.int .i64 m0) := later c14 f39
  have f44 : w14.cell? ⟨w.heap.size, 1, none⟩ = some (.slice x0 n0 p0) := later c14 f40
  have f45 : w14.cell? ⟨w7.heap.size, 0, none⟩ = some (.int .i64 m0) := later c14 f41
  have f46 : w14.cell? ⟨w7.heap.size, 1, none⟩ = some (.slice A7 n0 d7) := later c14 f42
  clear f39 f39q f40 f41 f41q f42
  have f43q : w.heap.size < w14.heap.size := World.block_lt_of_cell? _ _ f43
  have f45q : w7.heap.size < w14.heap.size := World.block_lt_of_cell? _ _ f45
  have s14 := c14.size
  have o2h'''''''''''' := Lib.hid (own_kept o2h'''''''''''.out c14)
  clear o2h'''''''''''
  have o3h''''''''''' := Lib.hid (own_kept o3h''''''''''.out c14)
  clear o3h''''''''''
  have o4h'''''''''' := Lib.hid (own_kept o4h'''''''''.out c14)
  clear o4h'''''''''
  have o5h''''''''' := Lib.hid (own_kept o5h''''''''.out c14)
  clear o5h''''''''
  have o7h''''''' := Lib.hid (own_kept o7h''''''.out c14)
  clear o7h''''''
  have o8h'''''' := Lib.hid (own_kept o8h'''''.out c14)
  clear o8h'''''
  have o9h''''' := Lib.hid (own_kept o9h''''.out c14)
  clear o9h''''
  have o10h'''' := Lib.hid (own_kept o10h'''.out c14)
  clear o10h'''
  have o13h' := Lib.hid (own_kept o13h.out c14)
  clear o13h
  have t14 : Below w.heap.size w w14 := also t13 c14
  go_wp2_with fail
  refine (toIntS_any x4 n4 p4 a4 _ (h4.kept t14) (by omega)).mono ?_
  rintro e w15 ⟨A15, d15, rfl, o15, b15⟩
  have c15 : Below w14.heap.size w14 w15 := b15
  have f47 : w15.cell? ⟨w.heap.size, 0, none⟩ = some (.int .i64 m0) := later c15 f43
  have f48 : w15.cell? ⟨w.heap.size, 1, none⟩ = some (.slice x0 n0 p0) := later c15 f44
  have f49 : w15.cell? ⟨w7.heap.size, 0, none⟩ = some (.int .i64 m0) := later c15 f45
  have f50 : w15.cell? ⟨w7.heap.size, 1, none⟩ = some (.slice A7 n0 d7) := later c15 f46
  clear f43 f43q f44 f45 f45q f46
  have f47q : w.heap.size < w15.heap.size := World.block_lt_of_cell? _ _ f47
  have f49q : w7.heap.size < w15.heap.size := World.block_lt_of_cell? _ _ f49
  have s15 := c15.size
  have o2h''''''''''''' := Lib.hid (own_kept o2h''''''''''''.out c15)
  clear o2h''''''''''''
  have o3h'''''''''''' := Lib.hid (own_kept o3h'''''''''''.out c15)
  clear o3h'''''''''''
  have o4h''''''''''' := Lib.hid (own_kept o4h''''''''''.out c15)
  clear o4h''''''''''
  have o5h'''''''''' := Lib.hid (own_kept o5h'''''''''.out c15)
  clear o5h'''''''''
  have o7h'''''''' := Lib.hid (own_kept o7h'''''''.out c15)
  clear o7h'''''''
  have o8h''''''' := Lib.hid (own_kept o8h''''''.out c15)
  clear o8h''''''
  have o9h'''''' := Lib.hid (own_kept o9h'''''.out c15)
  clear o9h'''''
  have o10h''''' := Lib.hid (own_kept o10h''''.out c15)
  clear o10h''''
  have o13h'' := Lib.hid (own_kept o13h'.out c15)
  clear o13h'
  have t15 : Below w.heap.size w w15 := also t14 c15
  have o15b := own_base (base' := w14.heap.size) o15 (by simp <;> omega)
  have o15l := Lib.hid (fun j h => World.ownsRow.lt o15b j h)
  have o15h := Lib.hid o15b
  clear o15 o15b
  go_wp2_with fail
  refine (eqIntS_below A9 A15 n4 d9 d15 a4 _ (own_rd o9h''''''.out) (own_rd o15h.out) (by omega)).mono ?_
  rintro e w16 ⟨rfl, b16⟩
  have c16 : Below w15.heap.size w15 w16 := b16
  have f51 : w16.cell? ⟨w.heap.size, 0, none⟩ = some (.int .i64 m0) := later c16 f47
  have f52 : w16.cell? ⟨w.heap.size, 1, none⟩ = some (.slice x0 n0 p0) := later c16 f48
  have f53 : w16.cell? ⟨w7.heap.size, 0, none⟩ = some (.int .i64 m0) := later c16 f49
  have f54 : w16.cell? ⟨w7.heap.size, 1, none⟩ = some (.slice A7 n0 d7) := later c16 f50
  clear f47 f47q f48 f49 f49q f50
  have f51q : w.heap.size < w16.heap.size := World.block_lt_of_cell? _ _ f51
  have f53q : w7.heap.size < w16.heap.size := World.block_lt_of_cell? _ _ f53
  have s16 := c16.size
  have o2h'''''''''''''' := Lib.hid (own_kept o2h'''''''''''''.out c16)
  clear o2h'''''''''''''
  have o3h''''''''''''' := Lib.hid (own_kept o3h''''''''''''.out c16)
  clear o3h''''''''''''
  have o4h'''''''''''' := Lib.hid (own_kept o4h'''''''''''.out c16)
  clear o4h'''''''''''
  have o5h''''''''''' := Lib.hid (own_kept o5h''''''''''.out c16)
  clear o5h''''''''''
  have o7h''''''''' := Lib.hid (own_kept o7h''''''''.out c16)
  clear o7h''''''''
  have o8h'''''''' := Lib.hid (own_kept o8h'''''''.out c16)
  clear o8h'''''''
  have o9h''''''' := Lib.hid (own_kept o9h''''''.out c16)
  clear o9h''''''
  have o10h'''''' := Lib.hid (own_kept o10h'''''.out c16)
  clear o10h'''''
  have o13h''' := Lib.hid (own_kept o13h''.out c16)
  clear o13h''
  have o15h' := Lib.hid (own_kept o15h.out c16)
  clear o15h
  have t16 : Below w.heap.size w w16 := also t15 c16
  go_wp2_with fail
  refine (toIntS_any x5 n5 p5 a5 _ (h5.kept t16) (by omega)).mono ?_
  rintro e w17 ⟨A17, d17, rfl, o17, b17⟩
  have c17 : Below w16.heap.size w16 w17 := b17
  have f55 : w17.cell? ⟨w.heap.size, 0, none⟩ = some (.int .i64 m0) := later c17 f51
  have f56 : w17.cell? ⟨w.heap.size, 1, none⟩ = some (.slice x0 n0 p0) := later c17 f52
  have f57 : w17.cell? ⟨w7.heap.size, 0, none⟩ = some (.int .i64 m0) := later c17 f53
  have f58 : w17.cell? ⟨w7.heap.size, 1, none⟩ = some (.slice A7 n0 d7) := later c17 f54
  clear f51 f51q f52 f53 f53q f54
  have f55q : w.heap.size < w17.heap.size := World.block_lt_of_cell? _ _ f55
  have f57q : w7.heap.size < w17.heap.size := World.block_lt_of_cell? _ _ f57
  have s17 := c17.size
  have o2h''''''''''''''' := Lib.hid (own_kept o2h''''''''''''''.out c17)
  clear o2h''''''''''''''
  have o3h'''''''''''''' := Lib.hid (own_kept o3h'''''''''''''.out c17)
  clear o3h'''''''''''''
  have o4h''''''''''''' := Lib.hid (own_kept o4h''''''''''''.out c17)
  clear o4h''''''''''''
  have o5h'''''''''''' := Lib.hid (own_kept o5h'''''''''''.out c17)
  clear o5h'''''''''''
  have o7h'''''''''' := Lib.hid (own_kept o7h'''''''''.out c17)
  clear o7h'''''''''
  have o8h''''''''' := Lib.hid (own_kept o8h''''''''.out c17)
  clear o8h''''''''
  have o9h'''''''' := Lib.hid (own_kept o9h'''''''.out c17)
  clear o9h'''''''
  have o10h''''''' := Lib.hid (own_kept o10h''''''.out c17)
  clear o10h''''''
  have o13h'''' := Lib.hid (own_kept o13h'''.out c17)
  clear o13h'''
  have o15h'' := Lib.hid (own_kept o15h'.out c17)
  clear o15h'
  have t17 : Below w.heap.size w w17 := also t16 c17
  have o17b := own_base (base' := w16.heap.size) o17 (by simp <;> omega)
  have o17l := Lib.hid (fun j h => World.ownsRow.lt o17b j h)
  have o17h := Lib.hid o17b
  clear o17 o17b
  go_wp2_with fail
  refine (eqIntS_below A10 A17 n5 d10 d17 a5 _ (own_rd o10h'''''''.out) (own_rd o17h.out) (by omega)).mono ?_
  rintro e w18 ⟨rfl, b18⟩
  have c18 : Below w17.heap.size w17 w18 := b18
  have f59 : w18.cell? ⟨w.heap.size, 0, none⟩ = some (.int .i64 m0) := later c18 f55
  have f60 : w18.cell? ⟨w.heap.size, 1, none⟩ = some (.slice x0 n0 p0) := later c18 f56
  have f61 : w18.cell? ⟨w7.heap.size, 0, none⟩ = some (.int .i64 m0) := later c18 f57
  have f62 : w18.cell? ⟨w7.heap.size, 1, none⟩ = some (.slice A7 n0 d7) := later c18 f58
  clear f55 f55q f56 f57 f57q f58
  have f59q : w.heap.size < w18.heap.size := World.block_lt_of_cell? _ _ f59
  have f61q : w7.heap.size < w18.heap.size := World.block_lt_of_cell? _ _ f61
  have s18 := c18.size
  have o2h'''''''''''''''' := Lib.hid (own_kept o2h'''''''''''''''.out c18)
  clear o2h'''''''''''''''
  have o3h''''''''''''''' := Lib.hid (own_kept o3h''''''''''''''.out c18)
  clear o3h''''''''''''''
  have o4h'''''''''''''' := Lib.hid (own_kept o4h'''''''''''''.out c18)
  clear o4h'''''''''''''
  have o5h''''''''''''' := Lib.hid (own_kept o5h''''''''''''.out c18)
  clear o5h''''''''''''
  have o7h''''''''''' := Lib.hid (own_kept o7h''''''''''.out c18)
  clear o7h''''''''''
  have o8h'''''''''' := Lib.hid (own_kept o8h'''''''''.out c18)
  clear o8h'''''''''
  have o9h''''''''' := Lib.hid (own_kept o9h''''''''.out c18)
  clear o9h''''''''
  have o10h'''''''' := Lib.hid (own_kept o10h'''''''.out c18)
  clear o10h'''''''
  have o13h''''' := Lib.hid (own_kept o13h''''.out c18)
  clear o13h''''
  have o15h''' := Lib.hid (own_kept o15h''.out c18)
  clear o15h''
  have o17h' := Lib.hid (own_kept o17h.out c18)
  clear o17h
  have t18 : Below w.heap.size w w18 := also t17 c18
  go_wp2_with fail
  all_goals go_ret
  all_goals exact ⟨rfl, t18⟩

end Go.Proofs.Ytnfmdkbelbppdaa
