/- The walk of the law FnExactRemovePipe. -/
import Derived.Test.YtmfapokolgnnhaaRemove
import Derived.Test.YtmfapokolgnnhaaNetH
import Derived.Test.YtmfapokolgnnhaaRows
import Derived.Deep.RegionHeld3
namespace Go.Proofs.Ytmfapokolgnnhaa
open Go.RowKit
set_option linter.unusedVariables false

set_option maxRecDepth 100000 in
set_option maxHeartbeats 2000000 in
theorem w_FnExactRemovePipe (m0 : Int) (x0 : Option Addr) (n0 p0 : Nat) (a0 : List Pp) (a1 : Int) (_k1 : wf64 a1) (w : World) (H0 : wf64 m0 ∧ a0.length = n0 ∧ Rd w 4 x0 n0 (pipesV a0) ∧ n0 ≤ maxLen ∧ ∀ p ∈ a0, p.wf) :
    Calls Try.prog 9 #[.agg #[.int .i64 m0, .slice x0 n0 p0], .int .i64 a1] w fun e w' => e = .returned (.bool true) ∧ Below w.heap.size w w' := by
  obtain ⟨_, _, h0, z0, _⟩ := H0
  unfold maxLen at z0
  by_cases e0 : (n0 : Int) ≤ 1048576
  rotate_left
  · have E0 := Lib.hid (szL_neg e0)
    go_enter Try.func9, Try.ntmps9
    go_wp2_with fail
    refine (szNetwork_any m0 x0 n0 p0 a0 (1048576) _ (h0.kept (below_a1 _ _)) (by omega) (by omega) (by omega)).mono ?_
    rintro e w1 ⟨rfl, b1⟩
    have c1 : Below w.heap.size w w1 := below_step (below_a1 _ _) b1 (by simp <;> omega)
    have f1 : w1.cell? ⟨w.heap.size, 0, none⟩ = some (.int .i64 m0) := (keeps b1 _ _ (by simp <;> omega)).trans (by simp [go_sem])
    have f2 : w1.cell? ⟨w.heap.size, 1, none⟩ = some (.slice x0 n0 p0) := (keeps b1 _ _ (by simp <;> omega)).trans (by simp [go_sem])
    have f1q : w.heap.size < w1.heap.size := World.block_lt_of_cell? _ _ f1
    have s1 : w.heap.size + 1 ≤ w1.heap.size := by have := b1.size; simp at this; omega
    have t1 : Below w.heap.size w w1 := c1
    rw [E0.out]
    go_wp2_with fail
    all_goals go_ret
    all_goals exact ⟨rfl, t1⟩
  have cs := fun (A0 : Option Addr) (d0 : Nat) (W : World) (H0 : Rd W 4 A0 n0 (pipesV a0)) (F0 : Fm A0 n0 d0) => RemovePipe_spec m0 A0 n0 d0 a0 a1 W H0 (by omega) F0
  have ci := fun (A0 : Option Addr) (d0 : Nat) (W : World) (H0 : Rd W 4 A0 n0 (pipesV a0)) (F0 : Fm A0 n0 d0) => RemovePipe_impl m0 A0 n0 d0 a0 a1 W H0 (by omega) F0
  have v0b := RemovePipe_len m0 a0 a1
  generalize RemovePipe_m0 m0 a0 a1 = v0m at cs ci v0b
  generalize RemovePipe_v0 m0 a0 a1 = v0 at cs ci v0b
  generalize hv0 : v0.length = v0n at cs ci v0b
  clear hv0
  generalize RemovePipe_v1 m0 a0 a1 = v1 at cs ci v0b
  have Cs := Lib.hid cs
  have Ci := Lib.hid ci
  clear cs ci
  have E0 := Lib.hid (szL_pos e0)
  go_enter Try.func9, Try.ntmps9
  go_wp2_with fail
  refine (szNetwork_any m0 x0 n0 p0 a0 (1048576) _ (h0.kept (below_a1 _ _)) (by omega) (by omega) (by omega)).mono ?_
  rintro e w1 ⟨rfl, b1⟩
  have c1 : Below w.heap.size w w1 := below_step (below_a1 _ _) b1 (by simp <;> omega)
  have f3 : w1.cell? ⟨w.heap.size, 0, none⟩ = some (.int .i64 m0) := (keeps b1 _ _ (by simp <;> omega)).trans (by simp [go_sem])
  have f4 : w1.cell? ⟨w.heap.size, 1, none⟩ = some (.slice x0 n0 p0) := (keeps b1 _ _ (by simp <;> omega)).trans (by simp [go_sem])
  have f3q : w.heap.size < w1.heap.size := World.block_lt_of_cell? _ _ f3
  have s1 : w.heap.size + 1 ≤ w1.heap.size := by have := b1.size; simp at this; omega
  have t1 : Below w.heap.size w w1 := c1
  rw [E0.out]
  go_wp2_with fail
  refine (toNetwork_any m0 x0 n0 p0 a0 _ (h0.kept t1) (by omega)).mono ?_
  rintro e w2 ⟨A2, d2, rfl, o2, b2⟩
  have c2 : Below w1.heap.size w1 w2 := b2
  have f5 : w2.cell? ⟨w.heap.size, 0, none⟩ = some (.int .i64 m0) := later c2 f3
  have f6 : w2.cell? ⟨w.heap.size, 1, none⟩ = some (.slice x0 n0 p0) := later c2 f4
  clear f3 f3q f4
  have f5q : w.heap.size < w2.heap.size := World.block_lt_of_cell? _ _ f5
  have s2 := c2.size
  have t2 : Below w.heap.size w w2 := also t1 c2
  have o2b := own_base (base' := w1.heap.size) o2 (by simp <;> omega)
  have o2l := Lib.hid (fun j h => World.ownsRow.lt o2b j h)
  have o2h := Lib.hid o2b
  clear o2 o2b
  go_wp2_with fail
  refine (Cs.out A2 d2 _ (own_rd o2h.out) (own_fm o2h.out)).mono ?_
  rintro e w3 ⟨A3_0, d3_0, rfl, o3_0, b3⟩
  have c3 : Below w2.heap.size w2 w3 := b3
  have f7 : w3.cell? ⟨w.heap.size, 0, none⟩ = some (.int .i64 m0) := later c3 f5
  have f8 : w3.cell? ⟨w.heap.size, 1, none⟩ = some (.slice x0 n0 p0) := later c3 f6
  clear f5 f5q f6
  have f7q : w.heap.size < w3.heap.size := World.block_lt_of_cell? _ _ f7
  have s3 := c3.size
  have o2h' := Lib.hid (own_kept o2h.out c3)
  clear o2h
  have t3 : Below w.heap.size w w3 := also t2 c3
  have o3_0h := Lib.hid o3_0
  clear o3_0
  go_wp2_with fail
  refine (toNetwork_any m0 x0 n0 p0 a0 _ (h0.kept (below_step t3 (below_a1 _ _) (Nat.le_refl _))) (by omega)).mono ?_
  rintro e w4 ⟨A4, d4, rfl, o4, b4⟩
  have c4 : Below w3.heap.size w3 w4 := below_step (below_a1 _ _) b4 (by simp <;> omega)
  have f9 : w4.cell? ⟨w.heap.size, 0, none⟩ = some (.int .i64 m0) := later c4 f7
  have f10 : w4.cell? ⟨w.heap.size, 1, none⟩ = some (.slice x0 n0 p0) := later c4 f8
  have f11 : w4.cell? ⟨w3.heap.size, 0, none⟩ = some (.int .i64 v0m) := (keeps b4 _ _ (by simp <;> omega)).trans (by simp [go_sem])
  have f12 : w4.cell? ⟨w3.heap.size, 1, none⟩ = some (.slice A3_0 v0n d3_0) := (keeps b4 _ _ (by simp <;> omega)).trans (by simp [go_sem])
  clear f7 f7q f8
  have f9q : w.heap.size < w4.heap.size := World.block_lt_of_cell? _ _ f9
  have f11q : w3.heap.size < w4.heap.size := World.block_lt_of_cell? _ _ f11
  have s4 : w3.heap.size + 1 ≤ w4.heap.size := by have := b4.size; simp at this; omega
  have o2h'' := Lib.hid (own_kept o2h'.out c4)
  clear o2h'
  have q3_0T4 : Below w3.heap.size w3 w4 := c4
  have t4 : Below w.heap.size w w4 := also t3 c4
  have o4b := own_base (base' := w3.heap.size + 1) o4 (by simp <;> omega)
  have o4l := Lib.hid (fun j h => World.ownsRow.lt o4b j h)
  have o4h := Lib.hid o4b
  clear o4 o4b
  go_wp2_with fail
  refine (Ci.out A4 d4 _ ((own_rd o4h.out).kept (below_a1 _ _)) (own_fm o4h.out)).mono ?_
  rintro e w5 ⟨A5_0, d5_0, rfl, o5_0, b5⟩
  have c5 : Below w4.heap.size w4 w5 := below_step (below_a1 _ _) b5 (by simp <;> omega)
  have f13 : w5.cell? ⟨w.heap.size, 0, none⟩ = some (.int .i64 m0) := later c5 f9
  have f14 : w5.cell? ⟨w.heap.size, 1, none⟩ = some (.slice x0 n0 p0) := later c5 f10
  have f15 : w5.cell? ⟨w3.heap.size, 0, none⟩ = some (.int .i64 v0m) := later c5 f11
  have f16 : w5.cell? ⟨w3.heap.size, 1, none⟩ = some (.slice A3_0 v0n d3_0) := later c5 f12
  have f17 : w5.cell? ⟨w4.heap.size, 0, none⟩ = some (.int .i64 m0) := (keeps b5 _ _ (by simp <;> omega)).trans (by simp [go_sem])
  have f18 : w5.cell? ⟨w4.heap.size, 1, none⟩ = some (.slice A4 n0 d4) := (keeps b5 _ _ (by simp <;> omega)).trans (by simp [go_sem])
  clear f9 f9q f10 f11 f11q f12
  have f13q : w.heap.size < w5.heap.size := World.block_lt_of_cell? _ _ f13
  have f15q : w3.heap.size < w5.heap.size := World.block_lt_of_cell? _ _ f15
  have f17q : w4.heap.size < w5.heap.size := World.block_lt_of_cell? _ _ f17
  have s5 : w4.heap.size + 1 ≤ w5.heap.size := by have := b5.size; simp at this; omega
  have o2h''' := Lib.hid (own_kept o2h''.out c5)
  clear o2h''
  have q3_0T5 : Below w3.heap.size w3 w5 := also q3_0T4 c5
  have o4h' := Lib.hid (own_kept o4h.out c5)
  clear o4h
  have t5 : Below w.heap.size w w5 := also t4 c5
  have o5_0b := own_base (base' := w4.heap.size + 1) o5_0 (by simp <;> omega)
  have o5_0l := Lib.hid (fun j h => World.ownsRow.lt o5_0b j h)
  have o5_0h := Lib.hid o5_0b
  clear o5_0 o5_0b
  go_wp2_with fail
  refine (eqNetwork_below v0m A5_0 A3_0 v0n d5_0 d3_0 v0 _ ((own_rd o5_0h.out).kept (below_a1 _ _)) ((o3_0h.out.kept q3_0T5).kept (below_a1 _ _)) (by omega)).mono ?_
  rintro e w6 ⟨rfl, b6⟩
  have c6 : Below w5.heap.size w5 w6 := below_step (below_a1 _ _) b6 (by simp <;> omega)
  have f19 : w6.cell? ⟨w.heap.size, 0, none⟩ = some (.int .i64 m0) := later c6 f13
  have f20 : w6.cell? ⟨w.heap.size, 1, none⟩ = some (.slice x0 n0 p0) := later c6 f14
  have f21 : w6.cell? ⟨w3.heap.size, 0, none⟩ = some (.int .i64 v0m) := later c6 f15
  have f22 : w6.cell? ⟨w3.heap.size, 1, none⟩ = some (.slice A3_0 v0n d3_0) := later c6 f16
  have f23 : w6.cell? ⟨w4.heap.size, 0, none⟩ = some (.int .i64 m0) := later c6 f17
  have f24 : w6.cell? ⟨w4.heap.size, 1, none⟩ = some (.slice A4 n0 d4) := later c6 f18
  have f25 : w6.cell? ⟨w5.heap.size, 0, none⟩ = some (.int .i64 v0m) := (keeps b6 _ _ (by simp <;> omega)).trans (by simp [go_sem])
  have f26 : w6.cell? ⟨w5.heap.size, 1, none⟩ = some (.slice A5_0 v0n d5_0) := (keeps b6 _ _ (by simp <;> omega)).trans (by simp [go_sem])
  clear f13 f13q f14 f15 f15q f16 f17 f17q f18
  have f19q : w.heap.size < w6.heap.size := World.block_lt_of_cell? _ _ f19
  have f21q : w3.heap.size < w6.heap.size := World.block_lt_of_cell? _ _ f21
  have f23q : w4.heap.size < w6.heap.size := World.block_lt_of_cell? _ _ f23
  have f25q : w5.heap.size < w6.heap.size := World.block_lt_of_cell? _ _ f25
  have s6 : w5.heap.size + 1 ≤ w6.heap.size := by have := b6.size; simp at this; omega
  have o2h'''' := Lib.hid (own_kept o2h'''.out c6)
  clear o2h'''
  have q3_0T6 : Below w3.heap.size w3 w6 := also q3_0T5 c6
  have o4h'' := Lib.hid (own_kept o4h'.out c6)
  clear o4h'
  have o5_0h' := Lib.hid (own_kept o5_0h.out c6)
  clear o5_0h
  have t6 : Below w.heap.size w w6 := also t5 c6
  go_wp2_with fail
  have Hx := Lib.hid (fun W' (hW : Below w6.heap.size w6 W') => toNetwork_any m0 x0 n0 p0 a0 W' (h0.kept (also t6 hW)) (by omega))
  have Hr := Lib.hid (own_rd o4h''.out)
  go_region_held3 (fun w' => w'.cell? ⟨w4.heap.size, 0, none⟩ = some (.int .i64 m0) ∧ w'.cell? ⟨w4.heap.size, 1, none⟩ = some (.slice A4 n0 d4) ∧ w'.cell? ⟨w.heap.size, 0, none⟩ = some (.int .i64 m0) ∧ w'.cell? ⟨w.heap.size, 1, none⟩ = some (.slice x0 n0 p0) ∧ Below w6.heap.size w6 w') (first | (go_split_ands; refine held4 f23 f24 f19 f20 ?_; first | exact (Below.refl _ _).drew | exact also (by assumption) (by assumption) | exact below_drewN (by assumption) _)) (first | (go_at_call 15; (with_reducible refine (Hx.out _ (by first | exact (Below.refl _ _).drew | (go_split_ands; assumption))).mono ?_); rintro e w7 ⟨A7, d7, rfl, o7, b7⟩; have O7 := Lib.hid (own_rd o7); clear o7) | (go_at_call 17; refine (eqNetwork_below m0 A4 A7 n0 d4 d7 a0 _ (Hr.out.kept (by go_split_ands; assumption)) O7.out (by omega)).mono ?_; rintro e w7x ⟨rfl, b7x⟩))
  rename_i hS
  have b7y := hS.2.2.2.2
  clear hS Hx Hr
  have c7x : Below w6.heap.size w6 w7x := b7y
  have f27 : w7x.cell? ⟨w.heap.size, 0, none⟩ = some (.int .i64 m0) := later c7x f19
  have f28 : w7x.cell? ⟨w.heap.size, 1, none⟩ = some (.slice x0 n0 p0) := later c7x f20
  have f29 : w7x.cell? ⟨w3.heap.size, 0, none⟩ = some (.int .i64 v0m) := later c7x f21
  have f30 : w7x.cell? ⟨w3.heap.size, 1, none⟩ = some (.slice A3_0 v0n d3_0) := later c7x f22
  have f31 : w7x.cell? ⟨w4.heap.size, 0, none⟩ = some (.int .i64 m0) := later c7x f23
  have f32 : w7x.cell? ⟨w4.heap.size, 1, none⟩ = some (.slice A4 n0 d4) := later c7x f24
  have f33 : w7x.cell? ⟨w5.heap.size, 0, none⟩ = some (.int .i64 v0m) := later c7x f25
  have f34 : w7x.cell? ⟨w5.heap.size, 1, none⟩ = some (.slice A5_0 v0n d5_0) := later c7x f26
  clear f19 f19q f20 f21 f21q f22 f23 f23q f24 f25 f25q f26
  have f27q : w.heap.size < w7x.heap.size := World.block_lt_of_cell? _ _ f27
  have f29q : w3.heap.size < w7x.heap.size := World.block_lt_of_cell? _ _ f29
  have f31q : w4.heap.size < w7x.heap.size := World.block_lt_of_cell? _ _ f31
  have f33q : w5.heap.size < w7x.heap.size := World.block_lt_of_cell? _ _ f33
  have s7x := c7x.size
  have o2h''''' := Lib.hid (own_kept o2h''''.out c7x)
  clear o2h''''
  have q3_0T7x : Below w3.heap.size w3 w7x := also q3_0T6 c7x
  have o4h''' := Lib.hid (own_kept o4h''.out c7x)
  clear o4h''
  have o5_0h'' := Lib.hid (own_kept o5_0h'.out c7x)
  clear o5_0h'
  have t7x : Below w.heap.size w w7x := also t6 c7x
  go_wp2_with fail
  refine (markNetwork_any m0 A4 n0 d4 _ _ _ _ o4h'''.out (by omega) (by omega) (by omega)).mono ?_
  rintro e w8 ⟨rfl, o8, g8⟩
  have t8 : Below w.heap.size w w8 := Below.grown t7x g8 (by have := t7x.size; simp; omega) (fun j h => by have h2 := o4l.out j h; omega)
  have q3_0T8 : Below w3.heap.size w3 w8 := Below.grown q3_0T7x g8 (by have := q3_0T7x.size; simp; omega) (fun j h => by have h2 := o4l.out j h; omega)
  have z8 : w7x.heap.size ≤ w8.heap.size := by have := g8.size; (try simp at this); omega
  have f35 : w8.cell? ⟨w.heap.size, 0, none⟩ = some (.int .i64 m0) := g8.cell (f27) (fun e => by have h := o4l.out _ e.symm; dsimp only at h; omega)
  have f36 : w8.cell? ⟨w.heap.size, 1, none⟩ = some (.slice x0 n0 p0) := g8.cell (f28) (fun e => by have h := o4l.out _ e.symm; dsimp only at h; omega)
  have f37 : w8.cell? ⟨w3.heap.size, 0, none⟩ = some (.int .i64 v0m) := g8.cell (f29) (fun e => by have h := o4l.out _ e.symm; dsimp only at h; omega)
  have f38 : w8.cell? ⟨w3.heap.size, 1, none⟩ = some (.slice A3_0 v0n d3_0) := g8.cell (f30) (fun e => by have h := o4l.out _ e.symm; dsimp only at h; omega)
  have f39 : w8.cell? ⟨w4.heap.size, 0, none⟩ = some (.int .i64 m0) := g8.cell (f31) (fun e => by have h := o4l.out _ e.symm; dsimp only at h; omega)
  have f40 : w8.cell? ⟨w4.heap.size, 1, none⟩ = some (.slice A4 n0 d4) := g8.cell (f32) (fun e => by have h := o4l.out _ e.symm; dsimp only at h; omega)
  have f41 : w8.cell? ⟨w5.heap.size, 0, none⟩ = some (.int .i64 v0m) := g8.cell (f33) (fun e => by have h := o4l.out _ e.symm; dsimp only at h; omega)
  have f42 : w8.cell? ⟨w5.heap.size, 1, none⟩ = some (.slice A5_0 v0n d5_0) := g8.cell (f34) (fun e => by have h := o4l.out _ e.symm; dsimp only at h; omega)
  clear f27 f27q f28 f29 f29q f30 f31 f31q f32 f33 f33q f34
  have f35q : w.heap.size < w8.heap.size := World.block_lt_of_cell? _ _ f35
  have f37q : w3.heap.size < w8.heap.size := World.block_lt_of_cell? _ _ f37
  have f39q : w4.heap.size < w8.heap.size := World.block_lt_of_cell? _ _ f39
  have f41q : w5.heap.size < w8.heap.size := World.block_lt_of_cell? _ _ f41
  have o2h'''''' := Lib.hid (own_grown o2h'''''.out g8 (fun j h1 h2 => by have q1 := o2l.out j h1; have q2 := o4l.out j h2; omega))
  clear o2h'''''
  have o5_0h''' := Lib.hid (own_grown o5_0h''.out g8 (fun j h1 h2 => by have q1 := o5_0l.out j h1; have q2 := o4l.out j h2; omega))
  clear o5_0h''
  have o8h := Lib.hid o8
  clear o8 g8 o4h'''
  go_wp2_with fail
  refine (eqNetwork_below v0m A5_0 A3_0 v0n d5_0 d3_0 v0 _ (own_rd o5_0h'''.out) (o3_0h.out.kept q3_0T8) (by omega)).mono ?_
  rintro e w9 ⟨rfl, b9⟩
  have c9 : Below w8.heap.size w8 w9 := b9
  have f43 : w9.cell? ⟨w.heap.size, 0, none⟩ = some (.int .i64 m0) := later c9 f35
  have f44 : w9.cell? ⟨w.heap.size, 1, none⟩ = some (.slice x0 n0 p0) := later c9 f36
  have f45 : w9.cell? ⟨w3.heap.size, 0, none⟩ = some (.int .i64 v0m) := later c9 f37
  have f46 : w9.cell? ⟨w3.heap.size, 1, none⟩ = some (.slice A3_0 v0n d3_0) := later c9 f38
  have f47 : w9.cell? ⟨w4.heap.size, 0, none⟩ = some (.int .i64 m0) := later c9 f39
  have f48 : w9.cell? ⟨w4.heap.size, 1, none⟩ = some (.slice A4 n0 d4) := later c9 f40
  have f49 : w9.cell? ⟨w5.heap.size, 0, none⟩ = some (.int .i64 v0m) := later c9 f41
  have f50 : w9.cell? ⟨w5.heap.size, 1, none⟩ = some (.slice A5_0 v0n d5_0) := later c9 f42
  clear f35 f35q f36 f37 f37q f38 f39 f39q f40 f41 f41q f42
  have f43q : w.heap.size < w9.heap.size := World.block_lt_of_cell? _ _ f43
  have f45q : w3.heap.size < w9.heap.size := World.block_lt_of_cell? _ _ f45
  have f47q : w4.heap.size < w9.heap.size := World.block_lt_of_cell? _ _ f47
  have f49q : w5.heap.size < w9.heap.size := World.block_lt_of_cell? _ _ f49
  have s9 := c9.size
  have o2h''''''' := Lib.hid (own_kept o2h''''''.out c9)
  clear o2h''''''
  have q3_0T9 : Below w3.heap.size w3 w9 := also q3_0T8 c9
  have o8h' := Lib.hid (own_kept o8h.out c9)
  clear o8h
  have o5_0h'''' := Lib.hid (own_kept o5_0h'''.out c9)
  clear o5_0h'''
  have t9 : Below w.heap.size w w9 := also t8 c9
  go_wp2_with fail
  refine (markNetwork_any v0m A5_0 v0n d5_0 _ _ _ _ o5_0h''''.out (by omega) (by omega) (by omega)).mono ?_
  rintro e w10 ⟨rfl, o10, g10⟩
  have t10 : Below w.heap.size w w10 := Below.grown t9 g10 (by have := t9.size; simp; omega) (fun j h => by have h2 := o5_0l.out j h; omega)
  have q3_0T10 : Below w3.heap.size w3 w10 := Below.grown q3_0T9 g10 (by have := q3_0T9.size; simp; omega) (fun j h => by have h2 := o5_0l.out j h; omega)
  have z10 : w9.heap.size ≤ w10.heap.size := by have := g10.size; (try simp at this); omega
  have f51 : w10.cell? ⟨w.heap.size, 0, none⟩ = some (.int .i64 m0) := g10.cell (f43) (fun e => by have h := o5_0l.out _ e.symm; dsimp only at h; omega)
  have f52 : w10.cell? ⟨w.heap.size, 1, none⟩ = some (.slice x0 n0 p0) := g10.cell (f44) (fun e => by have h := o5_0l.out _ e.symm; dsimp only at h; omega)
  have f53 : w10.cell? ⟨w3.heap.size, 0, none⟩ = some (.int .i64 v0m) := g10.cell (f45) (fun e => by have h := o5_0l.out _ e.symm; dsimp only at h; omega)
  have f54 : w10.cell? ⟨w3.heap.size, 1, none⟩ = some (.slice A3_0 v0n d3_0) := g10.cell (f46) (fun e => by have h := o5_0l.out _ e.symm; dsimp only at h; omega)
  have f55 : w10.cell? ⟨w4.heap.size, 0, none⟩ = some (.int .i64 m0) := g10.cell (f47) (fun e => by have h := o5_0l.out _ e.symm; dsimp only at h; omega)
  have f56 : w10.cell? ⟨w4.heap.size, 1, none⟩ = some (.slice A4 n0 d4) := g10.cell (f48) (fun e => by have h := o5_0l.out _ e.symm; dsimp only at h; omega)
  have f57 : w10.cell? ⟨w5.heap.size, 0, none⟩ = some (.int .i64 v0m) := g10.cell (f49) (fun e => by have h := o5_0l.out _ e.symm; dsimp only at h; omega)
  have f58 : w10.cell? ⟨w5.heap.size, 1, none⟩ = some (.slice A5_0 v0n d5_0) := g10.cell (f50) (fun e => by have h := o5_0l.out _ e.symm; dsimp only at h; omega)
  clear f43 f43q f44 f45 f45q f46 f47 f47q f48 f49 f49q f50
  have f51q : w.heap.size < w10.heap.size := World.block_lt_of_cell? _ _ f51
  have f53q : w3.heap.size < w10.heap.size := World.block_lt_of_cell? _ _ f53
  have f55q : w4.heap.size < w10.heap.size := World.block_lt_of_cell? _ _ f55
  have f57q : w5.heap.size < w10.heap.size := World.block_lt_of_cell? _ _ f57
  have o2h'''''''' := Lib.hid (own_grown o2h'''''''.out g10 (fun j h1 h2 => by have q1 := o2l.out j h1; have q2 := o5_0l.out j h2; omega))
  clear o2h'''''''
  have o8h'' := Lib.hid (own_grown o8h'.out g10 (fun j h1 h2 => by have q1 := o4l.out j h1; have q2 := o5_0l.out j h2; omega))
  clear o8h'
  have o10h := Lib.hid o10
  clear o10 g10 o5_0h''''
  go_wp2_with fail
  refine (heldNetwork_below v0m A5_0 v0n d5_0 _ _ (own_rd o10h.out) (by omega) (by omega) (by omega)).mono ?_
  rintro e w11 ⟨rfl, b11⟩
  have c11 : Below w10.heap.size w10 w11 := b11
  have f59 : w11.cell? ⟨w.heap.size, 0, none⟩ = some (.int .i64 m0) := later c11 f51
  have f60 : w11.cell? ⟨w.heap.size, 1, none⟩ = some (.slice x0 n0 p0) := later c11 f52
  have f61 : w11.cell? ⟨w3.heap.size, 0, none⟩ = some (.int .i64 v0m) := later c11 f53
  have f62 : w11.cell? ⟨w3.heap.size, 1, none⟩ = some (.slice A3_0 v0n d3_0) := later c11 f54
  have f63 : w11.cell? ⟨w4.heap.size, 0, none⟩ = some (.int .i64 m0) := later c11 f55
  have f64 : w11.cell? ⟨w4.heap.size, 1, none⟩ = some (.slice A4 n0 d4) := later c11 f56
  have f65 : w11.cell? ⟨w5.heap.size, 0, none⟩ = some (.int .i64 v0m) := later c11 f57
  have f66 : w11.cell? ⟨w5.heap.size, 1, none⟩ = some (.slice A5_0 v0n d5_0) := later c11 f58
  clear f51 f51q f52 f53 f53q f54 f55 f55q f56 f57 f57q f58
  have f59q : w.heap.size < w11.heap.size := World.block_lt_of_cell? _ _ f59
  have f61q : w3.heap.size < w11.heap.size := World.block_lt_of_cell? _ _ f61
  have f63q : w4.heap.size < w11.heap.size := World.block_lt_of_cell? _ _ f63
  have f65q : w5.heap.size < w11.heap.size := World.block_lt_of_cell? _ _ f65
  have s11 := c11.size
  have o2h''''''''' := Lib.hid (own_kept o2h''''''''.out c11)
  clear o2h''''''''
  have q3_0T11 : Below w3.heap.size w3 w11 := also q3_0T10 c11
  have o8h''' := Lib.hid (own_kept o8h''.out c11)
  clear o8h''
  have o10h' := Lib.hid (own_kept o10h.out c11)
  clear o10h
  have t11 : Below w.heap.size w w11 := also t10 c11
  go_wp2_with fail
  refine (toNetwork_any m0 x0 n0 p0 a0 _ (h0.kept t11) (by omega)).mono ?_
  rintro e w12 ⟨A12, d12, rfl, o12, b12⟩
  have c12 : Below w11.heap.size w11 w12 := b12
  have f67 : w12.cell? ⟨w.heap.size, 0, none⟩ = some (.int .i64 m0) := later c12 f59
  have f68 : w12.cell? ⟨w.heap.size, 1, none⟩ = some (.slice x0 n0 p0) := later c12 f60
  have f69 : w12.cell? ⟨w3.heap.size, 0, none⟩ = some (.int .i64 v0m) := later c12 f61
  have f70 : w12.cell? ⟨w3.heap.size, 1, none⟩ = some (.slice A3_0 v0n d3_0) := later c12 f62
  have f71 : w12.cell? ⟨w4.heap.size, 0, none⟩ = some (.int .i64 m0) := later c12 f63
  have f72 : w12.cell? ⟨w4.heap.size, 1, none⟩ = some (.slice A4 n0 d4) := later c12 f64
  have f73 : w12.cell? ⟨w5.heap.size, 0, none⟩ = some (.int .i64 v0m) := later c12 f65
  have f74 : w12.cell? ⟨w5.heap.size, 1, none⟩ = some (.slice A5_0 v0n d5_0) := later c12 f66
  clear f59 f59q f60 f61 f61q f62 f63 f63q f64 f65 f65q f66
  have f67q : w.heap.size < w12.heap.size := World.block_lt_of_cell? _ _ f67
  have f69q : w3.heap.size < w12.heap.size := World.block_lt_of_cell? _ _ f69
  have f71q : w4.heap.size < w12.heap.size := World.block_lt_of_cell? _ _ f71
  have f73q : w5.heap.size < w12.heap.size := World.block_lt_of_cell? _ _ f73
  have s12 := c12.size
  have o2h'''''''''' := Lib.hid (own_kept o2h'''''''''.out c12)
  clear o2h'''''''''
  have q3_0T12 : Below w3.heap.size w3 w12 := also q3_0T11 c12
  have o8h'''' := Lib.hid (own_kept o8h'''.out c12)
  clear o8h'''
  have o10h'' := Lib.hid (own_kept o10h'.out c12)
  clear o10h'
  have t12 : Below w.heap.size w w12 := also t11 c12
  have o12b := own_base (base' := w11.heap.size) o12 (by simp <;> omega)
  have o12l := Lib.hid (fun j h => World.ownsRow.lt o12b j h)
  have o12h := Lib.hid o12b
  clear o12 o12b
  go_wp2_with fail
  refine (Ci.out A12 d12 _ (own_rd o12h.out) (own_fm o12h.out)).mono ?_
  rintro e w13 ⟨A13_0, d13_0, rfl, o13_0, b13⟩
  have c13 : Below w12.heap.size w12 w13 := b13
  have f75 : w13.cell? ⟨w.heap.size, 0, none⟩ = some (.int .i64 m0) := later c13 f67
  have f76 : w13.cell? ⟨w.heap.size, 1, none⟩ = some (.slice x0 n0 p0) := later c13 f68
  have f77 : w13.cell? ⟨w3.heap.size, 0, none⟩ = some (.int .i64 v0m) := later c13 f69
  have f78 : w13.cell? ⟨w3.heap.size, 1, none⟩ = some (.slice A3_0 v0n d3_0) := later c13 f70
  have f79 : w13.cell? ⟨w4.heap.size, 0, none⟩ = some (.int .i64 m0) := later c13 f71
  have f80 : w13.cell? ⟨w4.heap.size, 1, none⟩ = some (.slice A4 n0 d4) := later c13 f72
  have f81 : w13.cell? ⟨w5.heap.size, 0, none⟩ = some (.int .i64 v0m) := later c13 f73
  have f82 : w13.cell? ⟨w5.heap.size, 1, none⟩ = some (.slice A5_0 v0n d5_0) := later c13 f74
  clear f67 f67q f68 f69 f69q f70 f71 f71q f72 f73 f73q f74
  have f75q : w.heap.size < w13.heap.size := World.block_lt_of_cell? _ _ f75
  have f77q : w3.heap.size < w13.heap.size := World.block_lt_of_cell? _ _ f77
  have f79q : w4.heap.size < w13.heap.size := World.block_lt_of_cell? _ _ f79
  have f81q : w5.heap.size < w13.heap.size := World.block_lt_of_cell? _ _ f81
  have s13 := c13.size
  have o2h''''''''''' := Lib.hid (own_kept o2h''''''''''.out c13)
  clear o2h''''''''''
  have q3_0T13 : Below w3.heap.size w3 w13 := also q3_0T12 c13
  have o8h''''' := Lib.hid (own_kept o8h''''.out c13)
  clear o8h''''
  have o10h''' := Lib.hid (own_kept o10h''.out c13)
  clear o10h''
  have o12h' := Lib.hid (own_kept o12h.out c13)
  clear o12h
  have t13 : Below w.heap.size w w13 := also t12 c13
  have o13_0b := own_base (base' := w12.heap.size) o13_0 (by simp <;> omega)
  have o13_0l := Lib.hid (fun j h => World.ownsRow.lt o13_0b j h)
  have o13_0h := Lib.hid o13_0b
  clear o13_0 o13_0b
  go_wp2_with fail
  refine (eqNetwork_below v0m A13_0 A3_0 v0n d13_0 d3_0 v0 _ ((own_rd o13_0h.out).kept (below_a1 _ _)) ((o3_0h.out.kept q3_0T13).kept (below_a1 _ _)) (by omega)).mono ?_
  rintro e w14 ⟨rfl, b14⟩
  have c14 : Below w13.heap.size w13 w14 := below_step (below_a1 _ _) b14 (by simp <;> omega)
  have f83 : w14.cell? ⟨w.heap.size, 0, none⟩ = some (.int .i64 m0) := later c14 f75
  have f84 : w14.cell? ⟨w.heap.size, 1, none⟩ = some (.slice x0 n0 p0) := later c14 f76
  have f85 : w14.cell? ⟨w3.heap.size, 0, none⟩ = some (.int .i64 v0m) := later c14 f77
  have f86 : w14.cell? ⟨w3.heap.size, 1, none⟩ = some (.slice A3_0 v0n d3_0) := later c14 f78
  have f87 : w14.cell? ⟨w4.heap.size, 0, none⟩ = some (.int .i64 m0) := later c14 f79
  have f88 : w14.cell? ⟨w4.heap.size, 1, none⟩ = some (.slice A4 n0 d4) := later c14 f80
  have f89 : w14.cell? ⟨w5.heap.size, 0, none⟩ = some (.int .i64 v0m) := later c14 f81
  have f90 : w14.cell? ⟨w5.heap.size, 1, none⟩ = some (.slice A5_0 v0n d5_0) := later c14 f82
  have f91 : w14.cell? ⟨w13.heap.size, 0, none⟩ = some (.int .i64 v0m) := (keeps b14 _ _ (by simp <;> omega)).trans (by simp [go_sem])
  have f92 : w14.cell? ⟨w13.heap.size, 1, none⟩ = some (.slice A13_0 v0n d13_0) := (keeps b14 _ _ (by simp <;> omega)).trans (by simp [go_sem])
  clear f75 f75q f76 f77 f77q f78 f79 f79q f80 f81 f81q f82
  have f83q : w.heap.size < w14.heap.size := World.block_lt_of_cell? _ _ f83
  have f85q : w3.heap.size < w14.heap.size := World.block_lt_of_cell? _ _ f85
  have f87q : w4.heap.size < w14.heap.size := World.block_lt_of_cell? _ _ f87
  have f89q : w5.heap.size < w14.heap.size := World.block_lt_of_cell? _ _ f89
  have f91q : w13.heap.size < w14.heap.size := World.block_lt_of_cell? _ _ f91
  have s14 : w13.heap.size + 1 ≤ w14.heap.size := by have := b14.size; simp at this; omega
  have o2h'''''''''''' := Lib.hid (own_kept o2h'''''''''''.out c14)
  clear o2h'''''''''''
  have q3_0T14 : Below w3.heap.size w3 w14 := also q3_0T13 c14
  have o8h'''''' := Lib.hid (own_kept o8h'''''.out c14)
  clear o8h'''''
  have o10h'''' := Lib.hid (own_kept o10h'''.out c14)
  clear o10h'''
  have o12h'' := Lib.hid (own_kept o12h'.out c14)
  clear o12h'
  have o13_0h' := Lib.hid (own_kept o13_0h.out c14)
  clear o13_0h
  have t14 : Below w.heap.size w w14 := also t13 c14
  go_wp2_with fail
  refine (heldNetwork_below v0m A5_0 v0n d5_0 _ _ (own_rd o10h''''.out) (by omega) (by omega) (by omega)).mono ?_
  rintro e w15 ⟨rfl, b15⟩
  have c15 : Below w14.heap.size w14 w15 := b15
  have f93 : w15.cell? ⟨w.heap.size, 0, none⟩ = some (.int .i64 m0) := later c15 f83
  have f94 : w15.cell? ⟨w.heap.size, 1, none⟩ = some (.slice x0 n0 p0) := later c15 f84
  have f95 : w15.cell? ⟨w3.heap.size, 0, none⟩ = some (.int .i64 v0m) := later c15 f85
  have f96 : w15.cell? ⟨w3.heap.size, 1, none⟩ = some (.slice A3_0 v0n d3_0) := later c15 f86
  have f97 : w15.cell? ⟨w4.heap.size, 0, none⟩ = some (.int .i64 m0) := later c15 f87
  have f98 : w15.cell? ⟨w4.heap.size, 1, none⟩ = some (.slice A4 n0 d4) := later c15 f88
  have f99 : w15.cell? ⟨w5.heap.size, 0, none⟩ = some (.int .i64 v0m) := later c15 f89
  have f100 : w15.cell? ⟨w5.heap.size, 1, none⟩ = some (.slice A5_0 v0n d5_0) := later c15 f90
  have f101 : w15.cell? ⟨w13.heap.size, 0, none⟩ = some (.int .i64 v0m) := later c15 f91
  have f102 : w15.cell? ⟨w13.heap.size, 1, none⟩ = some (.slice A13_0 v0n d13_0) := later c15 f92
  clear f83 f83q f84 f85 f85q f86 f87 f87q f88 f89 f89q f90 f91 f91q f92
  have f93q : w.heap.size < w15.heap.size := World.block_lt_of_cell? _ _ f93
  have f95q : w3.heap.size < w15.heap.size := World.block_lt_of_cell? _ _ f95
  have f97q : w4.heap.size < w15.heap.size := World.block_lt_of_cell? _ _ f97
  have f99q : w5.heap.size < w15.heap.size := World.block_lt_of_cell? _ _ f99
  have f101q : w13.heap.size < w15.heap.size := World.block_lt_of_cell? _ _ f101
  have s15 := c15.size
  have o2h''''''''''''' := Lib.hid (own_kept o2h''''''''''''.out c15)
  clear o2h''''''''''''
  have q3_0T15 : Below w3.heap.size w3 w15 := also q3_0T14 c15
  have o8h''''''' := Lib.hid (own_kept o8h''''''.out c15)
  clear o8h''''''
  have o10h''''' := Lib.hid (own_kept o10h''''.out c15)
  clear o10h''''
  have o12h''' := Lib.hid (own_kept o12h''.out c15)
  clear o12h''
  have o13_0h'' := Lib.hid (own_kept o13_0h'.out c15)
  clear o13_0h'
  have t15 : Below w.heap.size w w15 := also t14 c15
  go_wp2_with fail
  all_goals go_ret
  all_goals exact ⟨rfl, t15⟩

end Go.Proofs.Ytmfapokolgnnhaa
