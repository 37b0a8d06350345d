/- The walk of the law FnExactShortestPlan. -/
import Derived.Test.YtnfmdkbelbppdaaPlanB
import Derived.Test.YtnfmdkbelbppdaaNetH
import Derived.Test.YtnfmdkbelbppdaaValves
import Derived.Test.YtnfmdkbelbppdaaRows
import Derived.Deep.RegionHeld3
namespace Go.Proofs.Ytnfmdkbelbppdaa
open Go.RowKit
set_option linter.unusedVariables false

set_option maxRecDepth 100000 in
set_option maxHeartbeats 2000000 in
theorem w_FnExactShortestPlan (m0 : Int) (x0 : Option Addr) (n0 p0 : Nat) (a0 : List Pp) (x1 : Option Addr) (n1 p1 : Nat) (a1 : List Vv) (a2 : Int) (_k2 : wf64 a2) (a3 : Int) (_k3 : wf64 a3) (w : World) (H0 : wf64 m0 ∧ a0.length = n0 ∧ Rd w 4 x0 n0 (pipesV a0) ∧ n0 ≤ maxLen ∧ ∀ p ∈ a0, p.wf) (H1 : a1.length = n1 ∧ Rd w 4 x1 n1 (valvesV a1) ∧ n1 ≤ maxLen ∧ ∀ p ∈ a1, p.wf) :
    Calls Try.prog 4 #[.agg #[.int .i64 m0, .slice x0 n0 p0], .slice x1 n1 p1, .int .i64 a2, .int .i64 a3] w fun e w' => e = .returned (.bool true) ∧ Below w.heap.size w w' := by
  obtain ⟨_, _, h0, z0, _⟩ := H0
  unfold maxLen at z0
  obtain ⟨_, h1, z1, _⟩ := H1
  unfold maxLen at z1
  by_cases e0 : (n0 : Int) ≤ 1048576
  rotate_left
  · have E0 := Lib.hid (szL_neg e0)
    go_enter Try.func4, Try.ntmps4
    go_wp2_with fail
    refine (szNetwork_any m0 x0 n0 p0 a0 (1048576) _ (h0.kept (below_a1 _ _)) (by omega) (by omega) (by omega)).mono ?_
    rintro e w1 ⟨rfl, b1⟩
    have c1 : Below w.heap.size w w1 := below_step (below_a1 _ _) b1 (by simp <;> omega)
    have f1 : w1.cell? ⟨w.heap.size, 0, none⟩ = some (.int .i64 m0) := (keeps b1 _ _ (by simp <;> omega)).trans (by simp [go_sem])
    have f2 : w1.cell? ⟨w.heap.size, 1, none⟩ = some (.slice x0 n0 p0) := (keeps b1 _ _ (by simp <;> omega)).trans (by simp [go_sem])
    have f1q : w.heap.size < w1.heap.size := World.block_lt_of_cell? _ _ f1
    have s1 : w.heap.size + 1 ≤ w1.heap.size := by have := b1.size; simp at this; omega
    have t1 : Below w.heap.size w w1 := c1
    rw [E0.out]
    go_wp2_with fail
    all_goals go_ret
    all_goals exact ⟨rfl, t1⟩
  by_cases e1 : (n1 : Int) ≤ 1048576 - (n0 : Int)
  rotate_left
  · have E0 := Lib.hid (szL_pos e0)
    have E1 := Lib.hid (szL_neg e1)
    go_enter Try.func4, Try.ntmps4
    go_wp2_with fail
    refine (szNetwork_any m0 x0 n0 p0 a0 (1048576) _ (h0.kept (below_a1 _ _)) (by omega) (by omega) (by omega)).mono ?_
    rintro e w1 ⟨rfl, b1⟩
    have c1 : Below w.heap.size w w1 := below_step (below_a1 _ _) b1 (by simp <;> omega)
    have f3 : w1.cell? ⟨w.heap.size, 0, none⟩ = some (.int .i64 m0) := (keeps b1 _ _ (by simp <;> omega)).trans (by simp [go_sem])
    have f4 : w1.cell? ⟨w.heap.size, 1, none⟩ = some (.slice x0 n0 p0) := (keeps b1 _ _ (by simp <;> omega)).trans (by simp [go_sem])
    have f3q : w.heap.size < w1.heap.size := World.block_lt_of_cell? _ _ f3
    have s1 : w.heap.size + 1 ≤ w1.heap.size := by have := b1.size; simp at this; omega
    have t1 : Below w.heap.size w w1 := c1
    rw [E0.out]
    go_wp2_with fail
    refine (szValveS_any x1 n1 p1 (1048576 - (n0 : Int)) _ (by omega) (by omega) (by omega)).mono ?_
    rintro e w' ⟨rfl, rfl⟩
    rw [E1.out]
    go_wp2_with fail
    all_goals go_ret
    all_goals exact ⟨rfl, t1⟩
  have cs := fun (A0 : Option Addr) (d0 : Nat) (A1 : Option Addr) (d1 : Nat) (W : World) (H0 : Rd W 4 A0 n0 (pipesV a0)) (H1 : Rd W 4 A1 n1 (valvesV a1)) (F0 : Fm A0 n0 d0) (F1 : Fm A1 n1 d1) => ShortestPlan_spec m0 A0 n0 d0 a0 A1 n1 d1 a1 a2 a3 W H0 H1 (by omega) (by omega) F0 F1
  have ci := fun (A0 : Option Addr) (d0 : Nat) (A1 : Option Addr) (d1 : Nat) (W : World) (H0 : Rd W 4 A0 n0 (pipesV a0)) (H1 : Rd W 4 A1 n1 (valvesV a1)) (F0 : Fm A0 n0 d0) (F1 : Fm A1 n1 d1) => ShortestPlan_impl m0 A0 n0 d0 a0 A1 n1 d1 a1 a2 a3 W H0 H1 (by omega) (by omega) F0 F1
  have v0b := ShortestPlan_len m0 a0 a1 a2 a3
  generalize ShortestPlan_v0 m0 a0 a1 a2 a3 = v0 at cs ci v0b
  generalize hv0 : v0.length = v0n at cs ci v0b
  clear hv0
  generalize ShortestPlan_v1 m0 a0 a1 a2 a3 = v1 at cs ci v0b
  have Cs := Lib.hid cs
  have Ci := Lib.hid ci
  clear cs ci
  have E0 := Lib.hid (szL_pos e0)
  have E1 := Lib.hid (szL_pos e1)
  go_enter Try.func4, Try.ntmps4
  go_wp2_with fail
  refine (szNetwork_any m0 x0 n0 p0 a0 (1048576) _ (h0.kept (below_a1 _ _)) (by omega) (by omega) (by omega)).mono ?_
  rintro e w1 ⟨rfl, b1⟩
  have c1 : Below w.heap.size w w1 := below_step (below_a1 _ _) b1 (by simp <;> omega)
  have f5 : w1.cell? ⟨w.heap.size, 0, none⟩ = some (.int .i64 m0) := (keeps b1 _ _ (by simp <;> omega)).trans (by simp [go_sem])
  have f6 : w1.cell? ⟨w.heap.size, 1, none⟩ = some (.slice x0 n0 p0) := (keeps b1 _ _ (by simp <;> omega)).trans (by simp [go_sem])
  have f5q : w.heap.size < w1.heap.size := World.block_lt_of_cell? _ _ f5
  have s1 : w.heap.size + 1 ≤ w1.heap.size := by have := b1.size; simp at this; omega
  have t1 : Below w.heap.size w w1 := c1
  rw [E0.out]
  go_wp2_with fail
  refine (szValveS_any x1 n1 p1 (1048576 - (n0 : Int)) _ (by omega) (by omega) (by omega)).mono ?_
  rintro e w' ⟨rfl, rfl⟩
  rw [E1.out]
  go_wp2_with fail
  refine (toNetwork_any m0 x0 n0 p0 a0 _ (h0.kept t1) (by omega)).mono ?_
  rintro e w2 ⟨A2, d2, rfl, o2, b2⟩
  have c2 : Below w1.heap.size w1 w2 := b2
  have f7 : w2.cell? ⟨w.heap.size, 0, none⟩ = some (.int .i64 m0) := later c2 f5
  have f8 : w2.cell? ⟨w.heap.size, 1, none⟩ = some (.slice x0 n0 p0) := later c2 f6
  clear f5 f5q f6
  have f7q : w.heap.size < w2.heap.size := World.block_lt_of_cell? _ _ f7
  have s2 := c2.size
  have t2 : Below w.heap.size w w2 := also t1 c2
  have o2b := own_base (base' := w1.heap.size) o2 (by simp <;> omega)
  have o2l := Lib.hid (fun j h => World.ownsRow.lt o2b j h)
  have o2h := Lib.hid o2b
  clear o2 o2b
  go_wp2_with fail
  refine (toValveS_any x1 n1 p1 a1 _ (h1.kept t2) (by omega)).mono ?_
  rintro e w3 ⟨A3, d3, rfl, o3, b3⟩
  have c3 : Below w2.heap.size w2 w3 := b3
  have f9 : w3.cell? ⟨w.heap.size, 0, none⟩ = some (.int .i64 m0) := later c3 f7
  have f10 : w3.cell? ⟨w.heap.size, 1, none⟩ = some (.slice x0 n0 p0) := later c3 f8
  clear f7 f7q f8
  have f9q : w.heap.size < w3.heap.size := World.block_lt_of_cell? _ _ f9
  have s3 := c3.size
  have o2h' := Lib.hid (own_kept o2h.out c3)
  clear o2h
  have t3 : Below w.heap.size w w3 := also t2 c3
  have o3b := own_base (base' := w2.heap.size) o3 (by simp <;> omega)
  have o3l := Lib.hid (fun j h => World.ownsRow.lt o3b j h)
  have o3h := Lib.hid o3b
  clear o3 o3b
  go_wp2_with fail
  refine (Cs.out A2 d2 A3 d3 _ (own_rd o2h'.out) (own_rd o3h.out) (own_fm o2h'.out) (own_fm o3h.out)).mono ?_
  rintro e w4 ⟨A4_0, d4_0, rfl, o4_0, b4⟩
  have c4 : Below w3.heap.size w3 w4 := b4
  have f11 : w4.cell? ⟨w.heap.size, 0, none⟩ = some (.int .i64 m0) := later c4 f9
  have f12 : w4.cell? ⟨w.heap.size, 1, none⟩ = some (.slice x0 n0 p0) := later c4 f10
  clear f9 f9q f10
  have f11q : w.heap.size < w4.heap.size := World.block_lt_of_cell? _ _ f11
  have s4 := c4.size
  have o2h'' := Lib.hid (own_kept o2h'.out c4)
  clear o2h'
  have o3h' := Lib.hid (own_kept o3h.out c4)
  clear o3h
  have t4 : Below w.heap.size w w4 := also t3 c4
  have o4_0h := Lib.hid o4_0
  clear o4_0
  go_wp2_with fail
  refine (toNetwork_any m0 x0 n0 p0 a0 _ (h0.kept t4) (by omega)).mono ?_
  rintro e w5 ⟨A5, d5, rfl, o5, b5⟩
  have c5 : Below w4.heap.size w4 w5 := b5
  have f13 : w5.cell? ⟨w.heap.size, 0, none⟩ = some (.int .i64 m0) := later c5 f11
  have f14 : w5.cell? ⟨w.heap.size, 1, none⟩ = some (.slice x0 n0 p0) := later c5 f12
  clear f11 f11q f12
  have f13q : w.heap.size < w5.heap.size := World.block_lt_of_cell? _ _ f13
  have s5 := c5.size
  have o2h''' := Lib.hid (own_kept o2h''.out c5)
  clear o2h''
  have o3h'' := Lib.hid (own_kept o3h'.out c5)
  clear o3h'
  have q4_0T5 : Below w4.heap.size w4 w5 := c5
  have t5 : Below w.heap.size w w5 := also t4 c5
  have o5b := own_base (base' := w4.heap.size) o5 (by simp <;> omega)
  have o5l := Lib.hid (fun j h => World.ownsRow.lt o5b j h)
  have o5h := Lib.hid o5b
  clear o5 o5b
  go_wp2_with fail
  refine (toValveS_any x1 n1 p1 a1 _ (h1.kept (below_step t5 (below_a1 _ _) (Nat.le_refl _))) (by omega)).mono ?_
  rintro e w6 ⟨A6, d6, rfl, o6, b6⟩
  have c6 : Below w5.heap.size w5 w6 := below_step (below_a1 _ _) b6 (by simp <;> omega)
  have f15 : w6.cell? ⟨w.heap.size, 0, none⟩ = some (.int .i64 m0) := later c6 f13
  have f16 : w6.cell? ⟨w.heap.size, 1, none⟩ = some (.slice x0 n0 p0) := later c6 f14
  have f17 : w6.cell? ⟨w5.heap.size, 0, none⟩ = some (.int .i64 m0) := (keeps b6 _ _ (by simp <;> omega)).trans (by simp [go_sem])
  have f18 : w6.cell? ⟨w5.heap.size, 1, none⟩ = some (.slice A5 n0 d5) := (keeps b6 _ _ (by simp <;> omega)).trans (by simp [go_sem])
  clear f13 f13q f14
  have f15q : w.heap.size < w6.heap.size := World.block_lt_of_cell? _ _ f15
  have f17q : w5.heap.size < w6.heap.size := World.block_lt_of_cell? _ _ f17
  have s6 : w5.heap.size + 1 ≤ w6.heap.size := by have := b6.size; simp at this; omega
  have o2h'''' := Lib.hid (own_kept o2h'''.out c6)
  clear o2h'''
  have o3h''' := Lib.hid (own_kept o3h''.out c6)
  clear o3h''
  have q4_0T6 : Below w4.heap.size w4 w6 := also q4_0T5 c6
  have o5h' := Lib.hid (own_kept o5h.out c6)
  clear o5h
  have t6 : Below w.heap.size w w6 := also t5 c6
  have o6b := own_base (base' := w5.heap.size + 1) o6 (by simp <;> omega)
  have o6l := Lib.hid (fun j h => World.ownsRow.lt o6b j h)
  have o6h := Lib.hid o6b
  clear o6 o6b
  go_wp2_with fail
  refine (Ci.out A5 d5 A6 d6 _ (own_rd o5h'.out) (own_rd o6h.out) (own_fm o5h'.out) (own_fm o6h.out)).mono ?_
  rintro e w7 ⟨A7_0, d7_0, rfl, o7_0, b7⟩
  have c7 : Below w6.heap.size w6 w7 := b7
  have f19 : w7.cell? ⟨w.heap.size, 0, none⟩ = some (.int .i64 m0) := later c7 f15
  have f20 : w7.cell? ⟨w.heap.size, 1, none⟩ = some (.slice x0 n0 p0) := later c7 f16
  have f21 : w7.cell? ⟨w5.heap.size, 0, none⟩ = some (.int .i64 m0) := later c7 f17
  have f22 : w7.cell? ⟨w5.heap.size, 1, none⟩ = some (.slice A5 n0 d5) := later c7 f18
  clear f15 f15q f16 f17 f17q f18
  have f19q : w.heap.size < w7.heap.size := World.block_lt_of_cell? _ _ f19
  have f21q : w5.heap.size < w7.heap.size := World.block_lt_of_cell? _ _ f21
  have s7 := c7.size
  have o2h''''' := Lib.hid (own_kept o2h''''.out c7)
  clear o2h''''
  have o3h'''' := Lib.hid (own_kept o3h'''.out c7)
  clear o3h'''
  have q4_0T7 : Below w4.heap.size w4 w7 := also q4_0T6 c7
  have o5h'' := Lib.hid (own_kept o5h'.out c7)
  clear o5h'
  have o6h' := Lib.hid (own_kept o6h.out c7)
  clear o6h
  have t7 : Below w.heap.size w w7 := also t6 c7
  have o7_0b := own_base (base' := w6.heap.size) o7_0 (by simp <;> omega)
  have o7_0l := Lib.hid (fun j h => World.ownsRow.lt o7_0b j h)
  have o7_0h := Lib.hid o7_0b
  clear o7_0 o7_0b
  go_wp2_with fail
  refine (eqIntS_below A7_0 A4_0 v0n d7_0 d4_0 v0 _ (own_rd o7_0h.out) (o4_0h.out.kept q4_0T7) (by omega)).mono ?_
  rintro e w8 ⟨rfl, b8⟩
  have c8 : Below w7.heap.size w7 w8 := b8
  have f23 : w8.cell? ⟨w.heap.size, 0, none⟩ = some (.int .i64 m0) := later c8 f19
  have f24 : w8.cell? ⟨w.heap.size, 1, none⟩ = some (.slice x0 n0 p0) := later c8 f20
  have f25 : w8.cell? ⟨w5.heap.size, 0, none⟩ = some (.int .i64 m0) := later c8 f21
  have f26 : w8.cell? ⟨w5.heap.size, 1, none⟩ = some (.slice A5 n0 d5) := later c8 f22
  clear f19 f19q f20 f21 f21q f22
  have f23q : w.heap.size < w8.heap.size := World.block_lt_of_cell? _ _ f23
  have f25q : w5.heap.size < w8.heap.size := World.block_lt_of_cell? _ _ f25
  have s8 := c8.size
  have o2h'''''' := Lib.hid (own_kept o2h'''''.out c8)
  clear o2h'''''
  have o3h''''' := Lib.hid (own_kept o3h''''.out c8)
  clear o3h''''
  have q4_0T8 : Below w4.heap.size w4 w8 := also q4_0T7 c8
  have o5h''' := Lib.hid (own_kept o5h''.out c8)
  clear o5h''
  have o6h'' := Lib.hid (own_kept o6h'.out c8)
  clear o6h'
  have o7_0h' := Lib.hid (own_kept o7_0h.out c8)
  clear o7_0h
  have t8 : Below w.heap.size w w8 := also t7 c8
  go_wp2_with fail
  have Hx := Lib.hid (fun W' (hW : Below w8.heap.size w8 W') => toNetwork_any m0 x0 n0 p0 a0 W' (h0.kept (also t8 hW)) (by omega))
  have Hr := Lib.hid (own_rd o5h'''.out)
  go_region_held3 (fun w' => w'.cell? ⟨w5.heap.size, 0, none⟩ = some (.int .i64 m0) ∧ w'.cell? ⟨w5.heap.size, 1, none⟩ = some (.slice A5 n0 d5) ∧ w'.cell? ⟨w.heap.size, 0, none⟩ = some (.int .i64 m0) ∧ w'.cell? ⟨w.heap.size, 1, none⟩ = some (.slice x0 n0 p0) ∧ Below w8.heap.size w8 w') (first | (go_split_ands; refine held4 f25 f26 f23 f24 ?_; first | exact (Below.refl _ _).drew | exact also (by assumption) (by assumption) | exact below_drewN (by assumption) _)) (first | (go_at_call 16; (with_reducible refine (Hx.out _ (by first | exact (Below.refl _ _).drew | (go_split_ands; assumption))).mono ?_); rintro e w9 ⟨A9, d9, rfl, o9, b9⟩; have O9 := Lib.hid (own_rd o9); clear o9) | (go_at_call 20; refine (eqNetwork_below m0 A5 A9 n0 d5 d9 a0 _ (Hr.out.kept (by go_split_ands; assumption)) O9.out (by omega)).mono ?_; rintro e w9x ⟨rfl, b9x⟩))
  rename_i hS
  have b9y := hS.2.2.2.2
  clear hS Hx Hr
  have c9x : Below w8.heap.size w8 w9x := b9y
  have f27 : w9x.cell? ⟨w.heap.size, 0, none⟩ = some (.int .i64 m0) := later c9x f23
  have f28 : w9x.cell? ⟨w.heap.size, 1, none⟩ = some (.slice x0 n0 p0) := later c9x f24
  have f29 : w9x.cell? ⟨w5.heap.size, 0, none⟩ = some (.int .i64 m0) := later c9x f25
  have f30 : w9x.cell? ⟨w5.heap.size, 1, none⟩ = some (.slice A5 n0 d5) := later c9x f26
  clear f23 f23q f24 f25 f25q f26
  have f27q : w.heap.size < w9x.heap.size := World.block_lt_of_cell? _ _ f27
  have f29q : w5.heap.size < w9x.heap.size := World.block_lt_of_cell? _ _ f29
  have s9x := c9x.size
  have o2h''''''' := Lib.hid (own_kept o2h''''''.out c9x)
  clear o2h''''''
  have o3h'''''' := Lib.hid (own_kept o3h'''''.out c9x)
  clear o3h'''''
  have q4_0T9x : Below w4.heap.size w4 w9x := also q4_0T8 c9x
  have o5h'''' := Lib.hid (own_kept o5h'''.out c9x)
  clear o5h'''
  have o6h''' := Lib.hid (own_kept o6h''.out c9x)
  clear o6h''
  have o7_0h'' := Lib.hid (own_kept o7_0h'.out c9x)
  clear o7_0h'
  have t9x : Below w.heap.size w w9x := also t8 c9x
  go_wp2_with fail
  refine (toValveS_any x1 n1 p1 a1 _ (h1.kept t9x) (by omega)).mono ?_
  rintro e w10 ⟨A10, d10, rfl, o10, b10⟩
  have c10 : Below w9x.heap.size w9x w10 := b10
  have f31 : w10.cell? ⟨w.heap.size, 0, none⟩ = some (.int .i64 m0) := later c10 f27
  have f32 : w10.cell? ⟨w.heap.size, 1, none⟩ = some (.slice x0 n0 p0) := later c10 f28
  have f33 : w10.cell? ⟨w5.heap.size, 0, none⟩ = some (.int .i64 m0) := later c10 f29
  have f34 : w10.cell? ⟨w5.heap.size, 1, none⟩ = some (.slice A5 n0 d5) := later c10 f30
  clear f27 f27q f28 f29 f29q f30
  have f31q : w.heap.size < w10.heap.size := World.block_lt_of_cell? _ _ f31
  have f33q : w5.heap.size < w10.heap.size := World.block_lt_of_cell? _ _ f33
  have s10 := c10.size
  have o2h'''''''' := Lib.hid (own_kept o2h'''''''.out c10)
  clear o2h'''''''
  have o3h''''''' := Lib.hid (own_kept o3h''''''.out c10)
  clear o3h''''''
  have q4_0T10 : Below w4.heap.size w4 w10 := also q4_0T9x c10
  have o5h''''' := Lib.hid (own_kept o5h''''.out c10)
  clear o5h''''
  have o6h'''' := Lib.hid (own_kept o6h'''.out c10)
  clear o6h'''
  have o7_0h''' := Lib.hid (own_kept o7_0h''.out c10)
  clear o7_0h''
  have t10 : Below w.heap.size w w10 := also t9x c10
  have o10b := own_base (base' := w9x.heap.size) o10 (by simp <;> omega)
  have o10l := Lib.hid (fun j h => World.ownsRow.lt o10b j h)
  have o10h := Lib.hid o10b
  clear o10 o10b
  go_wp2_with fail
  refine (eqValveS_below A6 A10 n1 d6 d10 a1 _ (own_rd o6h''''.out) (own_rd o10h.out) (by omega)).mono ?_
  rintro e w11 ⟨rfl, b11⟩
  have c11 : Below w10.heap.size w10 w11 := b11
  have f35 : w11.cell? ⟨w.heap.size, 0, none⟩ = some (.int .i64 m0) := later c11 f31
  have f36 : w11.cell? ⟨w.heap.size, 1, none⟩ = some (.slice x0 n0 p0) := later c11 f32
  have f37 : w11.cell? ⟨w5.heap.size, 0, none⟩ = some (.int .i64 m0) := later c11 f33
  have f38 : w11.cell? ⟨w5.heap.size, 1, none⟩ = some (.slice A5 n0 d5) := later c11 f34
  clear f31 f31q f32 f33 f33q f34
  have f35q : w.heap.size < w11.heap.size := World.block_lt_of_cell? _ _ f35
  have f37q : w5.heap.size < w11.heap.size := World.block_lt_of_cell? _ _ f37
  have s11 := c11.size
  have o2h''''''''' := Lib.hid (own_kept o2h''''''''.out c11)
  clear o2h''''''''
  have o3h'''''''' := Lib.hid (own_kept o3h'''''''.out c11)
  clear o3h'''''''
  have q4_0T11 : Below w4.heap.size w4 w11 := also q4_0T10 c11
  have o5h'''''' := Lib.hid (own_kept o5h'''''.out c11)
  clear o5h'''''
  have o6h''''' := Lib.hid (own_kept o6h''''.out c11)
  clear o6h''''
  have o7_0h'''' := Lib.hid (own_kept o7_0h'''.out c11)
  clear o7_0h'''
  have o10h' := Lib.hid (own_kept o10h.out c11)
  clear o10h
  have t11 : Below w.heap.size w w11 := also t10 c11
  go_wp2_with fail
  refine (markNetwork_any m0 A5 n0 d5 _ _ _ _ o5h''''''.out (by omega) (by omega) (by omega)).mono ?_
  rintro e w12 ⟨rfl, o12, g12⟩
  have t12 : Below w.heap.size w w12 := Below.grown t11 g12 (by have := t11.size; simp; omega) (fun j h => by have h2 := o5l.out j h; omega)
  have q4_0T12 : Below w4.heap.size w4 w12 := Below.grown q4_0T11 g12 (by have := q4_0T11.size; simp; omega) (fun j h => by have h2 := o5l.out j h; omega)
  have z12 : w11.heap.size ≤ w12.heap.size := by have := g12.size; (try simp at this); omega
  have f39 : w12.cell? ⟨w.heap.size, 0, none⟩ = some (.int .i64 m0) := g12.cell (f35) (fun e => by have h := o5l.out _ e.symm; dsimp only at h; omega)
  have f40 : w12.cell? ⟨w.heap.size, 1, none⟩ = some (.slice x0 n0 p0) := g12.cell (f36) (fun e => by have h := o5l.out _ e.symm; dsimp only at h; omega)
  have f41 : w12.cell? ⟨w5.heap.size, 0, none⟩ = some (.int .i64 m0) := g12.cell (f37) (fun e => by have h := o5l.out _ e.symm; dsimp only at h; omega)
  have f42 : w12.cell? ⟨w5.heap.size, 1, none⟩ = some (.slice A5 n0 d5) := g12.cell (f38) (fun e => by have h := o5l.out _ e.symm; dsimp only at h; omega)
  clear f35 f35q f36 f37 f37q f38
  have f39q : w.heap.size < w12.heap.size := World.block_lt_of_cell? _ _ f39
  have f41q : w5.heap.size < w12.heap.size := World.block_lt_of_cell? _ _ f41
  have o2h'''''''''' := Lib.hid (own_grown o2h'''''''''.out g12 (fun j h1 h2 => by have q1 := o2l.out j h1; have q2 := o5l.out j h2; omega))
  clear o2h'''''''''
  have o3h''''''''' := Lib.hid (own_grown o3h''''''''.out g12 (fun j h1 h2 => by have q1 := o3l.out j h1; have q2 := o5l.out j h2; omega))
  clear o3h''''''''
  have o6h'''''' := Lib.hid (own_grown o6h'''''.out g12 (fun j h1 h2 => by have q1 := o6l.out j h1; have q2 := o5l.out j h2; omega))
  clear o6h'''''
  have o7_0h''''' := Lib.hid (own_grown o7_0h''''.out g12 (fun j h1 h2 => by have q1 := o7_0l.out j h1; have q2 := o5l.out j h2; omega))
  clear o7_0h''''
  have o10h'' := Lib.hid (own_grown o10h'.out g12 (fun j h1 h2 => by have q1 := o10l.out j h1; have q2 := o5l.out j h2; omega))
  clear o10h'
  have o12h := Lib.hid o12
  clear o12 g12 o5h''''''
  go_wp2_with fail
  refine (markValveS_any A6 n1 d6 _ _ _ _ o6h''''''.out (by omega) (by omega) (by omega)).mono ?_
  rintro e w13 ⟨rfl, o13, g13⟩
  have t13 : Below w.heap.size w w13 := Below.grown t12 g13 (by have := t12.size; simp; omega) (fun j h => by have h2 := o6l.out j h; omega)
  have q4_0T13 : Below w4.heap.size w4 w13 := Below.grown q4_0T12 g13 (by have := q4_0T12.size; simp; omega) (fun j h => by have h2 := o6l.out j h; omega)
  have z13 : w12.heap.size ≤ w13.heap.size := by have := g13.size; (try simp at this); omega
  have f43 : w13.cell? ⟨w.heap.size, 0, none⟩ = some (.int .i64 m0) := g13.cell (f39) (fun e => by have h := o6l.out _ e.symm; dsimp only at h; omega)
  have f44 : w13.cell? ⟨w.heap.size, 1, none⟩ = some (.slice x0 n0 p0) := g13.cell (f40) (fun e => by have h := o6l.out _ e.symm; dsimp only at h; omega)
  have f45 : w13.cell? ⟨w5.heap.size, 0, none⟩ = some (.int .i64 m0) := g13.cell (f41) (fun e => by have h := o6l.out _ e.symm; dsimp only at h; omega)
  have f46 : w13.cell? ⟨w5.heap.size, 1, none⟩ = some (.slice A5 n0 d5) := g13.cell (f42) (fun e => by have h := o6l.out _ e.symm; dsimp only at h; omega)
  clear f39 f39q f40 f41 f41q f42
  have f43q : w.heap.size < w13.heap.size := World.block_lt_of_cell? _ _ f43
  have f45q : w5.heap.size < w13.heap.size := World.block_lt_of_cell? _ _ f45
  have o2h''''''''''' := Lib.hid (own_grown o2h''''''''''.out g13 (fun j h1 h2 => by have q1 := o2l.out j h1; have q2 := o6l.out j h2; omega))
  clear o2h''''''''''
  have o3h'''''''''' := Lib.hid (own_grown o3h'''''''''.out g13 (fun j h1 h2 => by have q1 := o3l.out j h1; have q2 := o6l.out j h2; omega))
  clear o3h'''''''''
  have o12h' := Lib.hid (own_grown o12h.out g13 (fun j h1 h2 => by have q1 := o5l.out j h1; have q2 := o6l.out j h2; omega))
  clear o12h
  have o7_0h'''''' := Lib.hid (own_grown o7_0h'''''.out g13 (fun j h1 h2 => by have q1 := o7_0l.out j h1; have q2 := o6l.out j h2; omega))
  clear o7_0h'''''
  have o10h''' := Lib.hid (own_grown o10h''.out g13 (fun j h1 h2 => by have q1 := o10l.out j h1; have q2 := o6l.out j h2; omega))
  clear o10h''
  have o13h := Lib.hid o13
  clear o13 g13 o6h''''''
  go_wp2_with fail
  refine (eqIntS_below A7_0 A4_0 v0n d7_0 d4_0 v0 _ (own_rd o7_0h''''''.out) (o4_0h.out.kept q4_0T13) (by omega)).mono ?_
  rintro e w14 ⟨rfl, b14⟩
  have c14 : Below w13.heap.size w13 w14 := b14
  have f47 : w14.cell? ⟨w.heap.size, 0, none⟩ = some (.int .i64 m0) := later c14 f43
  have f48 : w14.cell? ⟨w.heap.size, 1, none⟩ = some (.slice x0 n0 p0) := later c14 f44
  have f49 : w14.cell? ⟨w5.heap.size, 0, none⟩ = some (.int .i64 m0) := later c14 f45
  have f50 : w14.cell? ⟨w5.heap.size, 1, none⟩ = some (.slice A5 n0 d5) := later c14 f46
  clear f43 f43q f44 f45 f45q f46
  have f47q : w.heap.size < w14.heap.size := World.block_lt_of_cell? _ _ f47
  have f49q : w5.heap.size < w14.heap.size := World.block_lt_of_cell? _ _ f49
  have s14 := c14.size
  have o2h'''''''''''' := Lib.hid (own_kept o2h'''''''''''.out c14)
  clear o2h'''''''''''
  have o3h''''''''''' := Lib.hid (own_kept o3h''''''''''.out c14)
  clear o3h''''''''''
  have q4_0T14 : Below w4.heap.size w4 w14 := also q4_0T13 c14
  have o12h'' := Lib.hid (own_kept o12h'.out c14)
  clear o12h'
  have o13h' := Lib.hid (own_kept o13h.out c14)
  clear o13h
  have o7_0h''''''' := Lib.hid (own_kept o7_0h''''''.out c14)
  clear o7_0h''''''
  have o10h'''' := Lib.hid (own_kept o10h'''.out c14)
  clear o10h'''
  have t14 : Below w.heap.size w w14 := also t13 c14
  go_wp2_with fail
  refine (markIntS_any A7_0 v0n d7_0 _ _ v0 _ o7_0h'''''''.out (by omega) (by omega) (by omega)).mono ?_
  rintro e w15 ⟨rfl, o15, g15⟩
  have t15 : Below w.heap.size w w15 := Below.grown t14 g15 (by have := t14.size; simp; omega) (fun j h => by have h2 := o7_0l.out j h; omega)
  have q4_0T15 : Below w4.heap.size w4 w15 := Below.grown q4_0T14 g15 (by have := q4_0T14.size; simp; omega) (fun j h => by have h2 := o7_0l.out j h; omega)
  have z15 : w14.heap.size ≤ w15.heap.size := by have := g15.size; (try simp at this); omega
  have f51 : w15.cell? ⟨w.heap.size, 0, none⟩ = some (.int .i64 m0) := g15.cell (f47) (fun e => by have h := o7_0l.out _ e.symm; dsimp only at h; omega)
  have f52 : w15.cell? ⟨w.heap.size, 1, none⟩ = some (.slice x0 n0 p0) := g15.cell (f48) (fun e => by have h := o7_0l.out _ e.symm; dsimp only at h; omega)
  have f53 : w15.cell? ⟨w5.heap.size, 0, none⟩ = some (.int .i64 m0) := g15.cell (f49) (fun e => by have h := o7_0l.out _ e.symm; dsimp only at h; omega)
  have f54 : w15.cell? ⟨w5.heap.size, 1, none⟩ = some (.slice A5 n0 d5) := g15.cell (f50) (fun e => by have h := o7_0l.out _ e.symm; dsimp only at h; omega)
  clear f47 f47q f48 f49 f49q f50
  have f51q : w.heap.size < w15.heap.size := World.block_lt_of_cell? _ _ f51
  have f53q : w5.heap.size < w15.heap.size := World.block_lt_of_cell? _ _ f53
  have o2h''''''''''''' := Lib.hid (own_grown o2h''''''''''''.out g15 (fun j h1 h2 => by have q1 := o2l.out j h1; have q2 := o7_0l.out j h2; omega))
  clear o2h''''''''''''
  have o3h'''''''''''' := Lib.hid (own_grown o3h'''''''''''.out g15 (fun j h1 h2 => by have q1 := o3l.out j h1; have q2 := o7_0l.out j h2; omega))
  clear o3h'''''''''''
  have o12h''' := Lib.hid (own_grown o12h''.out g15 (fun j h1 h2 => by have q1 := o5l.out j h1; have q2 := o7_0l.out j h2; omega))
  clear o12h''
  have o13h'' := Lib.hid (own_grown o13h'.out g15 (fun j h1 h2 => by have q1 := o6l.out j h1; have q2 := o7_0l.out j h2; omega))
  clear o13h'
  have o10h''''' := Lib.hid (own_grown o10h''''.out g15 (fun j h1 h2 => by have q1 := o10l.out j h1; have q2 := o7_0l.out j h2; omega))
  clear o10h''''
  have o15h := Lib.hid o15
  clear o15 g15 o7_0h'''''''
  go_wp2_with fail
  refine (heldIntS_below A7_0 v0n d7_0 _ _ (own_rd o15h.out) (by omega) (by omega) (by omega)).mono ?_
  rintro e w16 ⟨rfl, b16⟩
  have c16 : Below w15.heap.size w15 w16 := b16
  have f55 : w16.cell? ⟨w.heap.size, 0, none⟩ = some (.int .i64 m0) := later c16 f51
  have f56 : w16.cell? ⟨w.heap.size, 1, none⟩ = some (.slice x0 n0 p0) := later c16 f52
  have f57 : w16.cell? ⟨w5.heap.size, 0, none⟩ = some (.int .i64 m0) := later c16 f53
  have f58 : w16.cell? ⟨w5.heap.size, 1, none⟩ = some (.slice A5 n0 d5) := later c16 f54
  clear f51 f51q f52 f53 f53q f54
  have f55q : w.heap.size < w16.heap.size := World.block_lt_of_cell? _ _ f55
  have f57q : w5.heap.size < w16.heap.size := World.block_lt_of_cell? _ _ f57
  have s16 := c16.size
  have o2h'''''''''''''' := Lib.hid (own_kept o2h'''''''''''''.out c16)
  clear o2h'''''''''''''
  have o3h''''''''''''' := Lib.hid (own_kept o3h''''''''''''.out c16)
  clear o3h''''''''''''
  have q4_0T16 : Below w4.heap.size w4 w16 := also q4_0T15 c16
  have o12h'''' := Lib.hid (own_kept o12h'''.out c16)
  clear o12h'''
  have o13h''' := Lib.hid (own_kept o13h''.out c16)
  clear o13h''
  have o15h' := Lib.hid (own_kept o15h.out c16)
  clear o15h
  have o10h'''''' := Lib.hid (own_kept o10h'''''.out c16)
  clear o10h'''''
  have t16 : Below w.heap.size w w16 := also t15 c16
  go_wp2_with fail
  refine (toNetwork_any m0 x0 n0 p0 a0 _ (h0.kept t16) (by omega)).mono ?_
  rintro e w17 ⟨A17, d17, rfl, o17, b17⟩
  have c17 : Below w16.heap.size w16 w17 := b17
  have f59 : w17.cell? ⟨w.heap.size, 0, none⟩ = some (.int .i64 m0) := later c17 f55
  have f60 : w17.cell? ⟨w.heap.size, 1, none⟩ = some (.slice x0 n0 p0) := later c17 f56
  have f61 : w17.cell? ⟨w5.heap.size, 0, none⟩ = some (.int .i64 m0) := later c17 f57
  have f62 : w17.cell? ⟨w5.heap.size, 1, none⟩ = some (.slice A5 n0 d5) := later c17 f58
  clear f55 f55q f56 f57 f57q f58
  have f59q : w.heap.size < w17.heap.size := World.block_lt_of_cell? _ _ f59
  have f61q : w5.heap.size < w17.heap.size := World.block_lt_of_cell? _ _ f61
  have s17 := c17.size
  have o2h''''''''''''''' := Lib.hid (own_kept o2h''''''''''''''.out c17)
  clear o2h''''''''''''''
  have o3h'''''''''''''' := Lib.hid (own_kept o3h'''''''''''''.out c17)
  clear o3h'''''''''''''
  have q4_0T17 : Below w4.heap.size w4 w17 := also q4_0T16 c17
  have o12h''''' := Lib.hid (own_kept o12h''''.out c17)
  clear o12h''''
  have o13h'''' := Lib.hid (own_kept o13h'''.out c17)
  clear o13h'''
  have o15h'' := Lib.hid (own_kept o15h'.out c17)
  clear o15h'
  have o10h''''''' := Lib.hid (own_kept o10h''''''.out c17)
  clear o10h''''''
  have t17 : Below w.heap.size w w17 := also t16 c17
  have o17b := own_base (base' := w16.heap.size) o17 (by simp <;> omega)
  have o17l := Lib.hid (fun j h => World.ownsRow.lt o17b j h)
  have o17h := Lib.hid o17b
  clear o17 o17b
  go_wp2_with fail
  refine (toValveS_any x1 n1 p1 a1 _ (h1.kept t17) (by omega)).mono ?_
  rintro e w18 ⟨A18, d18, rfl, o18, b18⟩
  have c18 : Below w17.heap.size w17 w18 := b18
  have f63 : w18.cell? ⟨w.heap.size, 0, none⟩ = some (.int .i64 m0) := later c18 f59
  have f64 : w18.cell? ⟨w.heap.size, 1, none⟩ = some (.slice x0 n0 p0) := later c18 f60
  have f65 : w18.cell? ⟨w5.heap.size, 0, none⟩ = some (.int .i64 m0) := later c18 f61
  have f66 : w18.cell? ⟨w5.heap.size, 1, none⟩ = some (.slice A5 n0 d5) := later c18 f62
  clear f59 f59q f60 f61 f61q f62
  have f63q : w.heap.size < w18.heap.size := World.block_lt_of_cell? _ _ f63
  have f65q : w5.heap.size < w18.heap.size := World.block_lt_of_cell? _ _ f65
  have s18 := c18.size
  have o2h'''''''''''''''' := Lib.hid (own_kept o2h'''''''''''''''.out c18)
  clear o2h'''''''''''''''
  have o3h''''''''''''''' := Lib.hid (own_kept o3h''''''''''''''.out c18)
  clear o3h''''''''''''''
  have q4_0T18 : Below w4.heap.size w4 w18 := also q4_0T17 c18
  have o12h'''''' := Lib.hid (own_kept o12h'''''.out c18)
  clear o12h'''''
  have o13h''''' := Lib.hid (own_kept o13h''''.out c18)
  clear o13h''''
  have o15h''' := Lib.hid (own_kept o15h''.out c18)
  clear o15h''
  have o10h'''''''' := Lib.hid (own_kept o10h'''''''.out c18)
  clear o10h'''''''
  have o17h' := Lib.hid (own_kept o17h.out c18)
  clear o17h
  have t18 : Below w.heap.size w w18 := also t17 c18
  have o18b := own_base (base' := w17.heap.size) o18 (by simp <;> omega)
  have o18l := Lib.hid (fun j h => World.ownsRow.lt o18b j h)
  have o18h := Lib.hid o18b
  clear o18 o18b
  go_wp2_with fail
  refine (Ci.out A17 d17 A18 d18 _ (own_rd o17h'.out) (own_rd o18h.out) (own_fm o17h'.out) (own_fm o18h.out)).mono ?_
  rintro e w19 ⟨A19_0, d19_0, rfl, o19_0, b19⟩
  have c19 : Below w18.heap.size w18 w19 := b19
  have f67 : w19.cell? ⟨w.heap.size, 0, none⟩ = some (.int .i64 m0) := later c19 f63
  have f68 : w19.cell? ⟨w.heap.size, 1, none⟩ = some (.slice x0 n0 p0) := later c19 f64
  have f69 : w19.cell? ⟨w5.heap.size, 0, none⟩ = some (.int .i64 m0) := later c19 f65
  have f70 : w19.cell? ⟨w5.heap.size, 1, none⟩ = some (.slice A5 n0 d5) := later c19 f66
  clear f63 f63q f64 f65 f65q f66
  have f67q : w.heap.size < w19.heap.size := World.block_lt_of_cell? _ _ f67
  have f69q : w5.heap.size < w19.heap.size := World.block_lt_of_cell? _ _ f69
  have s19 := c19.size
  have o2h''''''''''''''''' := Lib.hid (own_kept o2h''''''''''''''''.out c19)
  clear o2h''''''''''''''''
  have o3h'''''''''''''''' := Lib.hid (own_kept o3h'''''''''''''''.out c19)
  clear o3h'''''''''''''''
  have q4_0T19 : Below w4.heap.size w4 w19 := also q4_0T18 c19
  have o12h''''''' := Lib.hid (own_kept o12h''''''.out c19)
  clear o12h''''''
  have o13h'''''' := Lib.hid (own_kept o13h'''''.out c19)
  clear o13h'''''
  have o15h'''' := Lib.hid (own_kept o15h'''.out c19)
  clear o15h'''
  have o10h''''''''' := Lib.hid (own_kept o10h''''''''.out c19)
  clear o10h''''''''
  have o17h'' := Lib.hid (own_kept o17h'.out c19)
  clear o17h'
  have o18h' := Lib.hid (own_kept o18h.out c19)
  clear o18h
  have t19 : Below w.heap.size w w19 := also t18 c19
  have o19_0b := own_base (base' := w18.heap.size) o19_0 (by simp <;> omega)
  have o19_0l := Lib.hid (fun j h => World.ownsRow.lt o19_0b j h)
  have o19_0h := Lib.hid o19_0b
  clear o19_0 o19_0b
  go_wp2_with fail
  refine (eqIntS_below A19_0 A4_0 v0n d19_0 d4_0 v0 _ (own_rd o19_0h.out) (o4_0h.out.kept q4_0T19) (by omega)).mono ?_
  rintro e w20 ⟨rfl, b20⟩
  have c20 : Below w19.heap.size w19 w20 := b20
  have f71 : w20.cell? ⟨w.heap.size, 0, none⟩ = some (.int .i64 m0) := later c20 f67
  have f72 : w20.cell? ⟨w.heap.size, 1, none⟩ = some (.slice x0 n0 p0) := later c20 f68
  have f73 : w20.cell? ⟨w5.heap.size, 0, none⟩ = some (.int .i64 m0) := later c20 f69
  have f74 : w20.cell? ⟨w5.heap.size, 1, none⟩ = some (.slice A5 n0 d5) := later c20 f70
  clear f67 f67q f68 f69 f69q f70
  have f71q : w.heap.size < w20.heap.size := World.block_lt_of_cell? _ _ f71
  have f73q : w5.heap.size < w20.heap.size := World.block_lt_of_cell? _ _ f73
  have s20 := c20.size
  have o2h'''''''''''''''''' := Lib.hid (own_kept o2h'''''''''''''''''.out c20)
  clear o2h'''''''''''''''''
  have o3h''''''''''''''''' := Lib.hid (own_kept o3h''''''''''''''''.out c20)
  clear o3h''''''''''''''''
  have q4_0T20 : Below w4.heap.size w4 w20 := also q4_0T19 c20
  have o12h'''''''' := Lib.hid (own_kept o12h'''''''.out c20)
  clear o12h'''''''
  have o13h''''''' := Lib.hid (own_kept o13h''''''.out c20)
  clear o13h''''''
  have o15h''''' := Lib.hid (own_kept o15h''''.out c20)
  clear o15h''''
  have o10h'''''''''' := Lib.hid (own_kept o10h'''''''''.out c20)
  clear o10h'''''''''
  have o17h''' := Lib.hid (own_kept o17h''.out c20)
  clear o17h''
  have o18h'' := Lib.hid (own_kept o18h'.out c20)
  clear o18h'
  have o19_0h' := Lib.hid (own_kept o19_0h.out c20)
  clear o19_0h
  have t20 : Below w.heap.size w w20 := also t19 c20
  go_wp2_with fail
  refine (heldIntS_below A7_0 v0n d7_0 _ _ (own_rd o15h'''''.out) (by omega) (by omega) (by omega)).mono ?_
  rintro e w21 ⟨rfl, b21⟩
  have c21 : Below w20.heap.size w20 w21 := b21
  have f75 : w21.cell? ⟨w.heap.size, 0, none⟩ = some (.int .i64 m0) := later c21 f71
  have f76 : w21.cell? ⟨w.heap.size, 1, none⟩ = some (.slice x0 n0 p0) := later c21 f72
  have f77 : w21.cell? ⟨w5.heap.size, 0, none⟩ = some (.int .i64 m0) := later c21 f73
  have f78 : w21.cell? ⟨w5.heap.size, 1, none⟩ = some (.slice A5 n0 d5) := later c21 f74
  clear f71 f71q f72 f73 f73q f74
  have f75q : w.heap.size < w21.heap.size := World.block_lt_of_cell? _ _ f75
  have f77q : w5.heap.size < w21.heap.size := World.block_lt_of_cell? _ _ f77
  have s21 := c21.size
  have o2h''''''''''''''''''' := Lib.hid (own_kept o2h''''''''''''''''''.out c21)
  clear o2h''''''''''''''''''
  have o3h'''''''''''''''''' := Lib.hid (own_kept o3h'''''''''''''''''.out c21)
  clear o3h'''''''''''''''''
  have q4_0T21 : Below w4.heap.size w4 w21 := also q4_0T20 c21
  have o12h''''''''' := Lib.hid (own_kept o12h''''''''.out c21)
  clear o12h''''''''
  have o13h'''''''' := Lib.hid (own_kept o13h'''''''.out c21)
  clear o13h'''''''
  have o15h'''''' := Lib.hid (own_kept o15h'''''.out c21)
  clear o15h'''''
  have o10h''''''''''' := Lib.hid (own_kept o10h''''''''''.out c21)
  clear o10h''''''''''
  have o17h'''' := Lib.hid (own_kept o17h'''.out c21)
  clear o17h'''
  have o18h''' := Lib.hid (own_kept o18h''.out c21)
  clear o18h''
  have o19_0h'' := Lib.hid (own_kept o19_0h'.out c21)
  clear o19_0h'
  have t21 : Below w.heap.size w w21 := also t20 c21
  go_wp2_with fail
  all_goals go_ret
  all_goals exact ⟨rfl, t21⟩

end Go.Proofs.Ytnfmdkbelbppdaa
