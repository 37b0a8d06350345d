/- The walk of the law FnExactCountSegments. -/
import Derived.Test.YthdmbndndfiidaaVCount
import Derived.Test.YthdmbndndfiidaaNetH
import Derived.Test.YthdmbndndfiidaaValves
import Derived.Test.YthdmbndndfiidaaRows
import Derived.Deep.RegionHeld3
namespace Go.Proofs.Ythdmbndndfiidaa
open Go.RowKit
set_option linter.unusedVariables false

set_option maxRecDepth 100000 in
set_option maxHeartbeats 2000000 in
theorem w_FnExactCountSegments (m0 : Int) (x0 : Option Addr) (n0 p0 : Nat) (a0 : List Pp) (x1 : Option Addr) (n1 p1 : Nat) (a1 : List Vv) (w : World) (H0 : wf64 m0 ∧ a0.length = n0 ∧ Rd w 4 x0 n0 (pipesV a0) ∧ n0 ≤ maxLen ∧ ∀ p ∈ a0, p.wf) (H1 : a1.length = n1 ∧ Rd w 4 x1 n1 (valvesV a1) ∧ n1 ≤ maxLen ∧ ∀ p ∈ a1, p.wf) :
    Calls Try.prog 6 #[.agg #[.int .i64 m0, .slice x0 n0 p0], .slice x1 n1 p1] w fun e w' => e = .returned (.bool true) ∧ Below w.heap.size w w' := by
  obtain ⟨_, _, h0, z0, _⟩ := H0
  unfold maxLen at z0
  obtain ⟨_, h1, z1, _⟩ := H1
  unfold maxLen at z1
  by_cases e0 : (n0 : Int) ≤ 1048576
  rotate_left
  · have E0 := Lib.hid (szL_neg e0)
    go_enter Try.func6, Try.ntmps6
    go_wp2_with fail
    refine (szNetwork_any m0 x0 n0 p0 a0 (1048576) _ (h0.kept (below_a1 _ _)) (by omega) (by omega) (by omega)).mono ?_
    rintro e w1 ⟨rfl, b1⟩
    have c1 : Below w.heap.size w w1 := below_step (below_a1 _ _) b1 (by simp <;> omega)
    have f1 : w1.cell? ⟨w.heap.size, 0, none⟩ = some (.int .i64 m0) := (keeps b1 _ _ (by simp <;> omega)).trans (by simp [go_sem])
    have f2 : w1.cell? ⟨w.heap.size, 1, none⟩ = some (.slice x0 n0 p0) := (keeps b1 _ _ (by simp <;> omega)).trans (by simp [go_sem])
    have f1q : w.heap.size < w1.heap.size := World.block_lt_of_cell? _ _ f1
    have s1 : w.heap.size + 1 ≤ w1.heap.size := by have := b1.size; simp at this; omega
    have t1 : Below w.heap.size w w1 := c1
    rw [E0.out]
    go_wp2_with fail
    all_goals go_ret
    all_goals exact ⟨rfl, t1⟩
  by_cases e1 : (n1 : Int) ≤ 1048576 - (n0 : Int)
  rotate_left
  · have E0 := Lib.hid (szL_pos e0)
    have E1 := Lib.hid (szL_neg e1)
    go_enter Try.func6, Try.ntmps6
    go_wp2_with fail
    refine (szNetwork_any m0 x0 n0 p0 a0 (1048576) _ (h0.kept (below_a1 _ _)) (by omega) (by omega) (by omega)).mono ?_
    rintro e w1 ⟨rfl, b1⟩
    have c1 : Below w.heap.size w w1 := below_step (below_a1 _ _) b1 (by simp <;> omega)
    have f3 : w1.cell? ⟨w.heap.size, 0, none⟩ = some (.int .i64 m0) := (keeps b1 _ _ (by simp <;> omega)).trans (by simp [go_sem])
    have f4 : w1.cell? ⟨w.heap.size, 1, none⟩ = some (.slice x0 n0 p0) := (keeps b1 _ _ (by simp <;> omega)).trans (by simp [go_sem])
    have f3q : w.heap.size < w1.heap.size := World.block_lt_of_cell? _ _ f3
    have s1 : w.heap.size + 1 ≤ w1.heap.size := by have := b1.size; simp at this; omega
    have t1 : Below w.heap.size w w1 := c1
    rw [E0.out]
    go_wp2_with fail
    refine (szValveS_any x1 n1 p1 (1048576 - (n0 : Int)) _ (by omega) (by omega) (by omega)).mono ?_
    rintro e w' ⟨rfl, rfl⟩
    rw [E1.out]
    go_wp2_with fail
    all_goals go_ret
    all_goals exact ⟨rfl, t1⟩
  have cs := fun (A0 : Option Addr) (d0 : Nat) (A1 : Option Addr) (d1 : Nat) (W : World) (H0 : Rd W 4 A0 n0 (pipesV a0)) (H1 : Rd W 4 A1 n1 (valvesV a1)) (F0 : Fm A0 n0 d0) (F1 : Fm A1 n1 d1) => CountSegments_spec m0 A0 n0 d0 a0 A1 n1 d1 a1 W H0 H1 (by omega) (by omega) F0 F1
  have ci := fun (A0 : Option Addr) (d0 : Nat) (A1 : Option Addr) (d1 : Nat) (W : World) (H0 : Rd W 4 A0 n0 (pipesV a0)) (H1 : Rd W 4 A1 n1 (valvesV a1)) (F0 : Fm A0 n0 d0) (F1 : Fm A1 n1 d1) => CountSegments_impl m0 A0 n0 d0 a0 A1 n1 d1 a1 W H0 H1 (by omega) (by omega) F0 F1
  generalize CountSegments_v0 m0 a0 a1 = v0 at cs ci
  generalize CountSegments_v1 m0 a0 a1 = v1 at cs ci
  have Cs := Lib.hid cs
  have Ci := Lib.hid ci
  clear cs ci
  have E0 := Lib.hid (szL_pos e0)
  have E1 := Lib.hid (szL_pos e1)
  go_enter Try.func6, Try.ntmps6
  go_wp2_with fail
  refine (szNetwork_any m0 x0 n0 p0 a0 (1048576) _ (h0.kept (below_a1 _ _)) (by omega) (by omega) (by omega)).mono ?_
  rintro e w1 ⟨rfl, b1⟩
  have c1 : Below w.heap.size w w1 := below_step (below_a1 _ _) b1 (by simp <;> omega)
  have f5 : w1.cell? ⟨w.heap.size, 0, none⟩ = some (.int .i64 m0) := (keeps b1 _ _ (by simp <;> omega)).trans (by simp [go_sem])
  have f6 : w1.cell? ⟨w.heap.size, 1, none⟩ = some (.slice x0 n0 p0) := (keeps b1 _ _ (by simp <;> omega)).trans (by simp [go_sem])
  have f5q : w.heap.size < w1.heap.size := World.block_lt_of_cell? _ _ f5
  have s1 : w.heap.size + 1 ≤ w1.heap.size := by have := b1.size; simp at this; omega
  have t1 : Below w.heap.size w w1 := c1
  rw [E0.out]
  go_wp2_with fail
  refine (szValveS_any x1 n1 p1 (1048576 - (n0 : Int)) _ (by omega) (by omega) (by omega)).mono ?_
  rintro e w' ⟨rfl, rfl⟩
  rw [E1.out]
  go_wp2_with fail
  refine (toNetwork_any m0 x0 n0 p0 a0 _ (h0.kept t1) (by omega)).mono ?_
  rintro e w2 ⟨A2, d2, rfl, o2, b2⟩
  have c2 : Below w1.heap.size w1 w2 := b2
  have f7 : w2.cell? ⟨w.heap.size, 0, none⟩ = some (.int .i64 m0) := later c2 f5
  have f8 : w2.cell? ⟨w.heap.size, 1, none⟩ = some (.slice x0 n0 p0) := later c2 f6
  clear f5 f5q f6
  have f7q : w.heap.size < w2.heap.size := World.block_lt_of_cell? _ _ f7
  have s2 := c2.size
  have t2 : Below w.heap.size w w2 := also t1 c2
  have o2b := own_base (base' := w1.heap.size) o2 (by simp <;> omega)
  have o2l := Lib.hid (fun j h => World.ownsRow.lt o2b j h)
  have o2h := Lib.hid o2b
  clear o2 o2b
  go_wp2_with fail
  refine (toValveS_any x1 n1 p1 a1 _ (h1.kept t2) (by omega)).mono ?_
  rintro e w3 ⟨A3, d3, rfl, o3, b3⟩
  have c3 : Below w2.heap.size w2 w3 := b3
  have f9 : w3.cell? ⟨w.heap.size, 0, none⟩ = some (.int .i64 m0) := later c3 f7
  have f10 : w3.cell? ⟨w.heap.size, 1, none⟩ = some (.slice x0 n0 p0) := later c3 f8
  clear f7 f7q f8
  have f9q : w.heap.size < w3.heap.size := World.block_lt_of_cell? _ _ f9
  have s3 := c3.size
  have o2h' := Lib.hid (own_kept o2h.out c3)
  clear o2h
  have t3 : Below w.heap.size w w3 := also t2 c3
  have o3b := own_base (base' := w2.heap.size) o3 (by simp <;> omega)
  have o3l := Lib.hid (fun j h => World.ownsRow.lt o3b j h)
  have o3h := Lib.hid o3b
  clear o3 o3b
  go_wp2_with fail
  refine (Cs.out A2 d2 A3 d3 _ (own_rd o2h'.out) (own_rd o3h.out) (own_fm o2h'.out) (own_fm o3h.out)).mono ?_
  rintro e w4 ⟨rfl, b4⟩
  have c4 : Below w3.heap.size w3 w4 := b4
  have f11 : w4.cell? ⟨w.heap.size, 0, none⟩ = some (.int .i64 m0) := later c4 f9
  have f12 : w4.cell? ⟨w.heap.size, 1, none⟩ = some (.slice x0 n0 p0) := later c4 f10
  clear f9 f9q f10
  have f11q : w.heap.size < w4.heap.size := World.block_lt_of_cell? _ _ f11
  have s4 := c4.size
  have o2h'' := Lib.hid (own_kept o2h'.out c4)
  clear o2h'
  have o3h' := Lib.hid (own_kept o3h.out c4)
  clear o3h
  have t4 : Below w.heap.size w w4 := also t3 c4
  go_wp2_with fail
  refine (toNetwork_any m0 x0 n0 p0 a0 _ (h0.kept t4) (by omega)).mono ?_
  rintro e w5 ⟨A5, d5, rfl, o5, b5⟩
  have c5 : Below w4.heap.size w4 w5 := b5
  have f13 : w5.cell? ⟨w.heap.size, 0, none⟩ = some (.int .i64 m0) := later c5 f11
  have f14 : w5.cell? ⟨w.heap.size, 1, none⟩ = some (.slice x0 n0 p0) := later c5 f12
  clear f11 f11q f12
  have f13q : w.heap.size < w5.heap.size := World.block_lt_of_cell? _ _ f13
  have s5 := c5.size
  have o2h''' := Lib.hid (own_kept o2h''.out c5)
  clear o2h''
  have o3h'' := Lib.hid (own_kept o3h'.out c5)
  clear o3h'
  have t5 : Below w.heap.size w w5 := also t4 c5
  have o5b := own_base (base' := w4.heap.size) o5 (by simp <;> omega)
  have o5l := Lib.hid (fun j h => World.ownsRow.lt o5b j h)
  have o5h := Lib.hid o5b
  clear o5 o5b
  go_wp2_with fail
  refine (toValveS_any x1 n1 p1 a1 _ (h1.kept (below_step t5 (below_a1 _ _) (Nat.le_refl _))) (by omega)).mono ?_
  rintro e w6 ⟨A6, d6, rfl, o6, b6⟩
  have c6 : Below w5.heap.size w5 w6 := below_step (below_a1 _ _) b6 (by simp <;> omega)
  have f15 : w6.cell? ⟨w.heap.size, 0, none⟩ = some (.int .i64 m0) := later c6 f13
  have f16 : w6.cell? ⟨w.heap.size, 1, none⟩ = some (.slice x0 n0 p0) := later c6 f14
  have f17 : w6.cell? ⟨w5.heap.size, 0, none⟩ = some (.int .i64 m0) := (keeps b6 _ _ (by simp <;> omega)).trans (by simp [go_sem])
  have f18 : w6.cell? ⟨w5.heap.size, 1, none⟩ = some (.slice A5 n0 d5) := (keeps b6 _ _ (by simp <;> omega)).trans (by simp [go_sem])
  clear f13 f13q f14
  have f15q : w.heap.size < w6.heap.size := World.block_lt_of_cell? _ _ f15
  have f17q : w5.heap.size < w6.heap.size := World.block_lt_of_cell? _ _ f17
  have s6 : w5.heap.size + 1 ≤ w6.heap.size := by have := b6.size; simp at this; omega
  have o2h'''' := Lib.hid (own_kept o2h'''.out c6)
  clear o2h'''
  have o3h''' := Lib.hid (own_kept o3h''.out c6)
  clear o3h''
  have o5h' := Lib.hid (own_kept o5h.out c6)
  clear o5h
  have t6 : Below w.heap.size w w6 := also t5 c6
  have o6b := own_base (base' := w5.heap.size + 1) o6 (by simp <;> omega)
  have o6l := Lib.hid (fun j h => World.ownsRow.lt o6b j h)
  have o6h := Lib.hid o6b
  clear o6 o6b
  go_wp2_with fail
  refine (Ci.out A5 d5 A6 d6 _ (own_rd o5h'.out) (own_rd o6h.out) (own_fm o5h'.out) (own_fm o6h.out)).mono ?_
  rintro e w7 ⟨rfl, b7⟩
  have c7 : Below w6.heap.size w6 w7 := b7
  have f19 : w7.cell? ⟨w.heap.size, 0, none⟩ = some (.int .i64 m0) := later c7 f15
  have f20 : w7.cell? ⟨w.heap.size, 1, none⟩ = some (.slice x0 n0 p0) := later c7 f16
  have f21 : w7.cell? ⟨w5.heap.size, 0, none⟩ = some (.int .i64 m0) := later c7 f17
  have f22 : w7.cell? ⟨w5.heap.size, 1, none⟩ = some (.slice A5 n0 d5) := later c7 f18
  clear f15 f15q f16 f17 f17q f18
  have f19q : w.heap.size < w7.heap.size := World.block_lt_of_cell? _ _ f19
  have f21q : w5.heap.size < w7.heap.size := World.block_lt_of_cell? _ _ f21
  have s7 := c7.size
  have o2h''''' := Lib.hid (own_kept o2h''''.out c7)
  clear o2h''''
  have o3h'''' := Lib.hid (own_kept o3h'''.out c7)
  clear o3h'''
  have o5h'' := Lib.hid (own_kept o5h'.out c7)
  clear o5h'
  have o6h' := Lib.hid (own_kept o6h.out c7)
  clear o6h
  have t7 : Below w.heap.size w w7 := also t6 c7
  go_wp2_with fail
  have Hx := Lib.hid (fun W' (hW : Below w7.heap.size w7 W') => toNetwork_any m0 x0 n0 p0 a0 W' (h0.kept (also t7 hW)) (by omega))
  have Hr := Lib.hid (own_rd o5h''.out)
  go_region_held3 (fun w' => w'.cell? ⟨w5.heap.size, 0, none⟩ = some (.int .i64 m0) ∧ w'.cell? ⟨w5.heap.size, 1, none⟩ = some (.slice A5 n0 d5) ∧ w'.cell? ⟨w.heap.size, 0, none⟩ = some (.int .i64 m0) ∧ w'.cell? ⟨w.heap.size, 1, none⟩ = some (.slice x0 n0 p0) ∧ Below w7.heap.size w7 w') (first | (go_split_ands; refine held4 f21 f22 f19 f20 ?_; first | exact (Below.refl _ _).drew | exact also (by assumption) (by assumption) | exact below_drewN (by assumption) _)) (first | (go_at_call 17; (with_reducible refine (Hx.out _ (by first | exact (Below.refl _ _).drew | (go_split_ands; assumption))).mono ?_); rintro e w8 ⟨A8, d8, rfl, o8, b8⟩; have O8 := Lib.hid (own_rd o8); clear o8) | (go_at_call 20; refine (eqNetwork_below m0 A5 A8 n0 d5 d8 a0 _ (Hr.out.kept (by go_split_ands; assumption)) O8.out (by omega)).mono ?_; rintro e w8x ⟨rfl, b8x⟩))
  rename_i hS
  have b8y := hS.2.2.2.2
  clear hS Hx Hr
  have c8x : Below w7.heap.size w7 w8x := b8y
  have f23 : w8x.cell? ⟨w.heap.size, 0, none⟩ = some (.int .i64 m0) := later c8x f19
  have f24 : w8x.cell? ⟨w.heap.size, 1, none⟩ = some (.slice x0 n0 p0) := later c8x f20
  have f25 : w8x.cell? ⟨w5.heap.size, 0, none⟩ = some (.int .i64 m0) := later c8x f21
  have f26 : w8x.cell? ⟨w5.heap.size, 1, none⟩ = some (.slice A5 n0 d5) := later c8x f22
  clear f19 f19q f20 f21 f21q f22
  have f23q : w.heap.size < w8x.heap.size := World.block_lt_of_cell? _ _ f23
  have f25q : w5.heap.size < w8x.heap.size := World.block_lt_of_cell? _ _ f25
  have s8x := c8x.size
  have o2h'''''' := Lib.hid (own_kept o2h'''''.out c8x)
  clear o2h'''''
  have o3h''''' := Lib.hid (own_kept o3h''''.out c8x)
  clear o3h''''
  have o5h''' := Lib.hid (own_kept o5h''.out c8x)
  clear o5h''
  have o6h'' := Lib.hid (own_kept o6h'.out c8x)
  clear o6h'
  have t8x : Below w.heap.size w w8x := also t7 c8x
  go_wp2_with fail
  refine (toValveS_any x1 n1 p1 a1 _ (h1.kept t8x) (by omega)).mono ?_
  rintro e w9 ⟨A9, d9, rfl, o9, b9⟩
  have c9 : Below w8x.heap.size w8x w9 := b9
  have f27 : w9.cell? ⟨w.heap.size, 0, none⟩ = some (.int .i64 m0) := later c9 f23
  have f28 : w9.cell? ⟨w.heap.size, 1, none⟩ = some (.slice x0 n0 p0) := later c9 f24
  have f29 : w9.cell? ⟨w5.heap.size, 0, none⟩ = some (.int .i64 m0) := later c9 f25
  have f30 : w9.cell? ⟨w5.heap.size, 1, none⟩ = some (.slice A5 n0 d5) := later c9 f26
  clear f23 f23q f24 f25 f25q f26
  have f27q : w.heap.size < w9.heap.size := World.block_lt_of_cell? _ _ f27
  have f29q : w5.heap.size < w9.heap.size := World.block_lt_of_cell? _ _ f29
  have s9 := c9.size
  have o2h''''''' := Lib.hid (own_kept o2h''''''.out c9)
  clear o2h''''''
  have o3h'''''' := Lib.hid (own_kept o3h'''''.out c9)
  clear o3h'''''
  have o5h'''' := Lib.hid (own_kept o5h'''.out c9)
  clear o5h'''
  have o6h''' := Lib.hid (own_kept o6h''.out c9)
  clear o6h''
  have t9 : Below w.heap.size w w9 := also t8x c9
  have o9b := own_base (base' := w8x.heap.size) o9 (by simp <;> omega)
  have o9l := Lib.hid (fun j h => World.ownsRow.lt o9b j h)
  have o9h := Lib.hid o9b
  clear o9 o9b
  go_wp2_with fail
  refine (eqValveS_below A6 A9 n1 d6 d9 a1 _ (own_rd o6h'''.out) (own_rd o9h.out) (by omega)).mono ?_
  rintro e w10 ⟨rfl, b10⟩
  have c10 : Below w9.heap.size w9 w10 := b10
  have f31 : w10.cell? ⟨w.heap.size, 0, none⟩ = some (.int .i64 m0) := later c10 f27
  have f32 : w10.cell? ⟨w.heap.size, 1, none⟩ = some (.slice x0 n0 p0) := later c10 f28
  have f33 : w10.cell? ⟨w5.heap.size, 0, none⟩ = some (.int .i64 m0) := later c10 f29
  have f34 : w10.cell? ⟨w5.heap.size, 1, none⟩ = some (.slice A5 n0 d5) := later c10 f30
  clear f27 f27q f28 f29 f29q f30
  have f31q : w.heap.size < w10.heap.size := World.block_lt_of_cell? _ _ f31
  have f33q : w5.heap.size < w10.heap.size := World.block_lt_of_cell? _ _ f33
  have s10 := c10.size
  have o2h'''''''' := Lib.hid (own_kept o2h'''''''.out c10)
  clear o2h'''''''
  have o3h''''''' := Lib.hid (own_kept o3h''''''.out c10)
  clear o3h''''''
  have o5h''''' := Lib.hid (own_kept o5h''''.out c10)
  clear o5h''''
  have o6h'''' := Lib.hid (own_kept o6h'''.out c10)
  clear o6h'''
  have o9h' := Lib.hid (own_kept o9h.out c10)
  clear o9h
  have t10 : Below w.heap.size w w10 := also t9 c10
  go_wp2_with fail
  all_goals go_ret
  all_goals exact ⟨rfl, t10⟩

end Go.Proofs.Ythdmbndndfiidaa
