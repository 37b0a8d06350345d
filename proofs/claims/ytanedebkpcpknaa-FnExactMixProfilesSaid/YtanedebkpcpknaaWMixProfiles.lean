/- The walk of the law FnExactMixProfiles. -/
import Derived.Test.YtanedebkpcpknaaMix
import Derived.Test.YtanedebkpcpknaaRows
import Derived.Deep.RegionHeld3
namespace Go.Proofs.Ytanedebkpcpknaa
open Go.RowKit
set_option linter.unusedVariables false

set_option maxRecDepth 100000 in
set_option maxHeartbeats 2000000 in
theorem w_FnExactMixProfiles (x0 : Option Addr) (n0 p0 : Nat) (a0 : List Int) (x1 : Option Addr) (n1 p1 : Nat) (a1 : List Int) (a2 : Int) (_k2 : wf64 a2) (w : World) (H0 : a0.length = n0 ∧ Rd w 1 x0 n0 (intsV a0) ∧ n0 ≤ maxLen ∧ ∀ n ∈ a0, wf64 n) (H1 : a1.length = n1 ∧ Rd w 1 x1 n1 (intsV a1) ∧ n1 ≤ maxLen ∧ ∀ n ∈ a1, wf64 n) :
    Calls Try.prog 6 #[.agg #[.slice x0 n0 p0], .agg #[.slice x1 n1 p1], .int .i64 a2] w fun e w' => e = .returned (.bool true) ∧ Below w.heap.size w w' := by
  obtain ⟨_, h0, z0, _⟩ := H0
  unfold maxLen at z0
  obtain ⟨_, h1, z1, _⟩ := H1
  unfold maxLen at z1
  by_cases e0 : (n0 : Int) ≤ 1048576
  rotate_left
  · have E0 := Lib.hid (szL_neg e0)
    go_enter Try.func6, Try.ntmps6
    go_wp2_with fail
    refine (szDayProfile_any x0 n0 p0 a0 (1048576) _ (h0.kept (below_a2 _ _ _)) (by omega) (by omega) (by omega)).mono ?_
    rintro e w1 ⟨rfl, b1⟩
    have c1 : Below w.heap.size w w1 := below_step (below_a2 _ _ _) b1 (by simp <;> omega)
    have f1 : w1.cell? ⟨w.heap.size, 0, none⟩ = some (.slice x0 n0 p0) := (keeps b1 _ _ (by simp <;> omega)).trans (by simp [go_sem])
    have f2 : w1.cell? ⟨w.heap.size + 1, 0, none⟩ = some (.slice x1 n1 p1) := (keeps b1 _ _ (by simp <;> omega)).trans (by simp [go_sem])
    have f1q : w.heap.size < w1.heap.size := World.block_lt_of_cell? _ _ f1
    have f2q : w.heap.size + 1 < w1.heap.size := World.block_lt_of_cell? _ _ f2
    have s1 : w.heap.size + 2 ≤ w1.heap.size := by have := b1.size; simp at this; omega
    have t1 : Below w.heap.size w w1 := c1
    rw [E0.out]
    go_wp2_with fail
    all_goals go_ret
    all_goals exact ⟨rfl, t1⟩
  by_cases e1 : (n1 : Int) ≤ 1048576 - (n0 : Int)
  rotate_left
  · have E0 := Lib.hid (szL_pos e0)
    have E1 := Lib.hid (szL_neg e1)
    go_enter Try.func6, Try.ntmps6
    go_wp2_with fail
    refine (szDayProfile_any x0 n0 p0 a0 (1048576) _ (h0.kept (below_a2 _ _ _)) (by omega) (by omega) (by omega)).mono ?_
    rintro e w1 ⟨rfl, b1⟩
    have c1 : Below w.heap.size w w1 := below_step (below_a2 _ _ _) b1 (by simp <;> omega)
    have f3 : w1.cell? ⟨w.heap.size, 0, none⟩ = some (.slice x0 n0 p0) := (keeps b1 _ _ (by simp <;> omega)).trans (by simp [go_sem])
    have f4 : w1.cell? ⟨w.heap.size + 1, 0, none⟩ = some (.slice x1 n1 p1) := (keeps b1 _ _ (by simp <;> omega)).trans (by simp [go_sem])
    have f3q : w.heap.size < w1.heap.size := World.block_lt_of_cell? _ _ f3
    have f4q : w.heap.size + 1 < w1.heap.size := World.block_lt_of_cell? _ _ f4
    have s1 : w.heap.size + 2 ≤ w1.heap.size := by have := b1.size; simp at this; omega
    have t1 : Below w.heap.size w w1 := c1
    rw [E0.out]
    go_wp2_with fail
    refine (szDayProfile_any x1 n1 p1 a1 (1048576 - (n0 : Int)) _ (h1.kept t1) (by omega) (by omega) (by omega)).mono ?_
    rintro e w2 ⟨rfl, b2⟩
    have c2 : Below w1.heap.size w1 w2 := b2
    have f5 : w2.cell? ⟨w.heap.size, 0, none⟩ = some (.slice x0 n0 p0) := later c2 f3
    have f6 : w2.cell? ⟨w.heap.size + 1, 0, none⟩ = some (.slice x1 n1 p1) := later c2 f4
    clear f3 f3q f4 f4q
    have f5q : w.heap.size < w2.heap.size := World.block_lt_of_cell? _ _ f5
    have f6q : w.heap.size + 1 < w2.heap.size := World.block_lt_of_cell? _ _ f6
    have s2 := c2.size
    have t2 : Below w.heap.size w w2 := also t1 c2
    rw [E1.out]
    go_wp2_with fail
    all_goals go_ret
    all_goals exact ⟨rfl, t2⟩
  have cs := fun (A0 : Option Addr) (d0 : Nat) (A1 : Option Addr) (d1 : Nat) (W : World) (H0 : Rd W 1 A0 n0 (intsV a0)) (H1 : Rd W 1 A1 n1 (intsV a1)) => MixProfiles_spec A0 n0 d0 a0 A1 n1 d1 a1 a2 W H0 H1 (by omega) (by omega)
  have ci := fun (A0 : Option Addr) (d0 : Nat) (A1 : Option Addr) (d1 : Nat) (W : World) (H0 : Rd W 1 A0 n0 (intsV a0)) (H1 : Rd W 1 A1 n1 (intsV a1)) => MixProfiles_impl A0 n0 d0 a0 A1 n1 d1 a1 a2 W H0 H1 (by omega) (by omega)
  have v0b := MixProfiles_len a0 a1 a2
  generalize MixProfiles_v0 a0 a1 a2 = v0 at cs ci v0b
  generalize hv0 : v0.length = v0n at cs ci v0b
  clear hv0
  generalize MixProfiles_v1 a0 a1 a2 = v1 at cs ci v0b
  have Cs := Lib.hid cs
  have Ci := Lib.hid ci
  clear cs ci
  have E0 := Lib.hid (szL_pos e0)
  have E1 := Lib.hid (szL_pos e1)
  go_enter Try.func6, Try.ntmps6
  go_wp2_with fail
  refine (szDayProfile_any x0 n0 p0 a0 (1048576) _ (h0.kept (below_a2 _ _ _)) (by omega) (by omega) (by omega)).mono ?_
  rintro e w1 ⟨rfl, b1⟩
  have c1 : Below w.heap.size w w1 := below_step (below_a2 _ _ _) b1 (by simp <;> omega)
  have f7 : w1.cell? ⟨w.heap.size, 0, none⟩ = some (.slice x0 n0 p0) := (keeps b1 _ _ (by simp <;> omega)).trans (by simp [go_sem])
  have f8 : w1.cell? ⟨w.heap.size + 1, 0, none⟩ = some (.slice x1 n1 p1) := (keeps b1 _ _ (by simp <;> omega)).trans (by simp [go_sem])
  have f7q : w.heap.size < w1.heap.size := World.block_lt_of_cell? _ _ f7
  have f8q : w.heap.size + 1 < w1.heap.size := World.block_lt_of_cell? _ _ f8
  have s1 : w.heap.size + 2 ≤ w1.heap.size := by have := b1.size; simp at this; omega
  have t1 : Below w.heap.size w w1 := c1
  rw [E0.out]
  go_wp2_with fail
  refine (szDayProfile_any x1 n1 p1 a1 (1048576 - (n0 : Int)) _ (h1.kept t1) (by omega) (by omega) (by omega)).mono ?_
  rintro e w2 ⟨rfl, b2⟩
  have c2 : Below w1.heap.size w1 w2 := b2
  have f9 : w2.cell? ⟨w.heap.size, 0, none⟩ = some (.slice x0 n0 p0) := later c2 f7
  have f10 : w2.cell? ⟨w.heap.size + 1, 0, none⟩ = some (.slice x1 n1 p1) := later c2 f8
  clear f7 f7q f8 f8q
  have f9q : w.heap.size < w2.heap.size := World.block_lt_of_cell? _ _ f9
  have f10q : w.heap.size + 1 < w2.heap.size := World.block_lt_of_cell? _ _ f10
  have s2 := c2.size
  have t2 : Below w.heap.size w w2 := also t1 c2
  rw [E1.out]
  go_wp2_with fail
  have Hx0 := Lib.hid (fun W' (hW : Below w2.heap.size w2 W') => toDayProfile_any x0 n0 p0 a0 W' (h0.kept (also t2 hW)) (by omega))
  have Hx1 := Lib.hid (fun W' (hW : Below w2.heap.size w2 W') => toDayProfile_any x1 n1 p1 a1 W' (h1.kept (also t2 hW)) (by omega))
  go_region_held3 (fun w' => w'.cell? ⟨w.heap.size, 0, none⟩ = some (.slice x0 n0 p0) ∧ w'.cell? ⟨w.heap.size + 1, 0, none⟩ = some (.slice x1 n1 p1) ∧ Below w2.heap.size w2 w') (first | (go_split_ands; refine held2 f9 f10 ?_; first | exact (Below.refl _ _).drew | exact also (by assumption) (by assumption) | exact below_drewN (by assumption) _)) (first | (go_at_call 15; (with_reducible refine (Hx0.out _ (by first | exact (Below.refl _ _).drew | (go_split_ands; assumption))).mono ?_); rintro e w3c0 ⟨A3c0, d3c0, rfl, o3c0, b3c0⟩; have s3c0 : w2.heap.size ≤ w3c0.heap.size := b3c0.size; have O3c0 := Lib.hid (own_rd o3c0); have B3c0 := Lib.hid b3c0; clear o3c0) | (go_at_call 15; (with_reducible refine (Hx1.out _ (by first | exact (Below.refl _ _).drew | (go_split_ands; assumption))).mono ?_); rintro e w3c1 ⟨A3c1, d3c1, rfl, o3c1, b3c1⟩; have s3c1 : w3c0.heap.size ≤ w3c1.heap.size := b3c1.size; have O3c1 := Lib.hid (own_rd o3c1); have B3c1 := Lib.hid b3c1; clear o3c1) | (go_at_call 19; refine (Cs.out A3c0 d3c0 A3c1 d3c1 _ (rd_later B3c1.out O3c0.out) O3c1.out).mono ?_; rintro e w3 ⟨A3_0, d3_0, rfl, o3_0, b3⟩; have P3_0 := Lib.hid o3_0; clear o3_0))
  rename_i hS
  have b3y : Below w2.heap.size w2 w3 := hS.2.2
  clear hS Hx0 Hx1
  have c3 : Below w2.heap.size w2 w3 := b3y
  have f11 : w3.cell? ⟨w.heap.size, 0, none⟩ = some (.slice x0 n0 p0) := later c3 f9
  have f12 : w3.cell? ⟨w.heap.size + 1, 0, none⟩ = some (.slice x1 n1 p1) := later c3 f10
  clear f9 f9q f10 f10q
  have f11q : w.heap.size < w3.heap.size := World.block_lt_of_cell? _ _ f11
  have f12q : w.heap.size + 1 < w3.heap.size := World.block_lt_of_cell? _ _ f12
  have s3 := c3.size
  have t3 : Below w.heap.size w w3 := also t2 c3
  have o3_0 := own_base (base' := w2.heap.size) P3_0.out (Nat.le_trans s3c0 s3c1)
  have o3_0l := Lib.hid (fun j h => World.ownsRow.lt o3_0 j h)
  have o3_0h := Lib.hid o3_0
  clear o3_0 P3_0
  go_wp2_with fail
  refine (toDayProfile_any x0 n0 p0 a0 _ (h0.kept t3) (by omega)).mono ?_
  rintro e w4 ⟨A4, d4, rfl, o4, b4⟩
  have c4 : Below w3.heap.size w3 w4 := b4
  have f13 : w4.cell? ⟨w.heap.size, 0, none⟩ = some (.slice x0 n0 p0) := later c4 f11
  have f14 : w4.cell? ⟨w.heap.size + 1, 0, none⟩ = some (.slice x1 n1 p1) := later c4 f12
  clear f11 f11q f12 f12q
  have f13q : w.heap.size < w4.heap.size := World.block_lt_of_cell? _ _ f13
  have f14q : w.heap.size + 1 < w4.heap.size := World.block_lt_of_cell? _ _ f14
  have s4 := c4.size
  have o3_0h' := Lib.hid (own_kept o3_0h.out c4)
  clear o3_0h
  have t4 : Below w.heap.size w w4 := also t3 c4
  have o4b := own_base (base' := w3.heap.size) o4 (by simp <;> omega)
  have o4l := Lib.hid (fun j h => World.ownsRow.lt o4b j h)
  have o4h := Lib.hid o4b
  clear o4 o4b
  go_wp2_with fail
  refine (toDayProfile_any x1 n1 p1 a1 _ (h1.kept (below_step t4 (below_a1 _ _) (Nat.le_refl _))) (by omega)).mono ?_
  rintro e w5 ⟨A5, d5, rfl, o5, b5⟩
  have c5 : Below w4.heap.size w4 w5 := below_step (below_a1 _ _) b5 (by simp <;> omega)
  have f15 : w5.cell? ⟨w.heap.size, 0, none⟩ = some (.slice x0 n0 p0) := later c5 f13
  have f16 : w5.cell? ⟨w.heap.size + 1, 0, none⟩ = some (.slice x1 n1 p1) := later c5 f14
  have f17 : w5.cell? ⟨w4.heap.size, 0, none⟩ = some (.slice A4 n0 d4) := (keeps b5 _ _ (by simp <;> omega)).trans (by simp [go_sem])
  clear f13 f13q f14 f14q
  have f15q : w.heap.size < w5.heap.size := World.block_lt_of_cell? _ _ f15
  have f16q : w.heap.size + 1 < w5.heap.size := World.block_lt_of_cell? _ _ f16
  have f17q : w4.heap.size < w5.heap.size := World.block_lt_of_cell? _ _ f17
  have s5 : w4.heap.size + 1 ≤ w5.heap.size := by have := b5.size; simp at this; omega
  have o3_0h'' := Lib.hid (own_kept o3_0h'.out c5)
  clear o3_0h'
  have o4h' := Lib.hid (own_kept o4h.out c5)
  clear o4h
  have t5 : Below w.heap.size w w5 := also t4 c5
  have o5b := own_base (base' := w4.heap.size + 1) o5 (by simp <;> omega)
  have o5l := Lib.hid (fun j h => World.ownsRow.lt o5b j h)
  have o5h := Lib.hid o5b
  clear o5 o5b
  go_wp2_with fail
  refine (Ci.out A4 d4 A5 d5 _ ((own_rd o4h'.out).kept (below_a1 _ _)) ((own_rd o5h.out).kept (below_a1 _ _))).mono ?_
  rintro e w6 ⟨A6_0, d6_0, rfl, o6_0, b6⟩
  have c6 : Below w5.heap.size w5 w6 := below_step (below_a1 _ _) b6 (by simp <;> omega)
  have f18 : w6.cell? ⟨w.heap.size, 0, none⟩ = some (.slice x0 n0 p0) := later c6 f15
  have f19 : w6.cell? ⟨w.heap.size + 1, 0, none⟩ = some (.slice x1 n1 p1) := later c6 f16
  have f20 : w6.cell? ⟨w4.heap.size, 0, none⟩ = some (.slice A4 n0 d4) := later c6 f17
  have f21 : w6.cell? ⟨w5.heap.size, 0, none⟩ = some (.slice A5 n1 d5) := (keeps b6 _ _ (by simp <;> omega)).trans (by simp [go_sem])
  clear f15 f15q f16 f16q f17 f17q
  have f18q : w.heap.size < w6.heap.size := World.block_lt_of_cell? _ _ f18
  have f19q : w.heap.size + 1 < w6.heap.size := World.block_lt_of_cell? _ _ f19
  have f20q : w4.heap.size < w6.heap.size := World.block_lt_of_cell? _ _ f20
  have f21q : w5.heap.size < w6.heap.size := World.block_lt_of_cell? _ _ f21
  have s6 : w5.heap.size + 1 ≤ w6.heap.size := by have := b6.size; simp at this; omega
  have o3_0h''' := Lib.hid (own_kept o3_0h''.out c6)
  clear o3_0h''
  have o4h'' := Lib.hid (own_kept o4h'.out c6)
  clear o4h'
  have o5h' := Lib.hid (own_kept o5h.out c6)
  clear o5h
  have t6 : Below w.heap.size w w6 := also t5 c6
  have o6_0b := own_base (base' := w5.heap.size + 1) o6_0 (by simp <;> omega)
  have o6_0l := Lib.hid (fun j h => World.ownsRow.lt o6_0b j h)
  have o6_0h := Lib.hid o6_0b
  clear o6_0 o6_0b
  go_wp2_with fail
  refine (eqIntS_below A6_0 A3_0 v0n d6_0 d3_0 v0 _ (own_rd o6_0h.out) (own_rd o3_0h'''.out) (by omega)).mono ?_
  rintro e w7 ⟨rfl, b7⟩
  have c7 : Below w6.heap.size w6 w7 := b7
  have f22 : w7.cell? ⟨w.heap.size, 0, none⟩ = some (.slice x0 n0 p0) := later c7 f18
  have f23 : w7.cell? ⟨w.heap.size + 1, 0, none⟩ = some (.slice x1 n1 p1) := later c7 f19
  have f24 : w7.cell? ⟨w4.heap.size, 0, none⟩ = some (.slice A4 n0 d4) := later c7 f20
  have f25 : w7.cell? ⟨w5.heap.size, 0, none⟩ = some (.slice A5 n1 d5) := later c7 f21
  clear f18 f18q f19 f19q f20 f20q f21 f21q
  have f22q : w.heap.size < w7.heap.size := World.block_lt_of_cell? _ _ f22
  have f23q : w.heap.size + 1 < w7.heap.size := World.block_lt_of_cell? _ _ f23
  have f24q : w4.heap.size < w7.heap.size := World.block_lt_of_cell? _ _ f24
  have f25q : w5.heap.size < w7.heap.size := World.block_lt_of_cell? _ _ f25
  have s7 := c7.size
  have o3_0h'''' := Lib.hid (own_kept o3_0h'''.out c7)
  clear o3_0h'''
  have o4h''' := Lib.hid (own_kept o4h''.out c7)
  clear o4h''
  have o5h'' := Lib.hid (own_kept o5h'.out c7)
  clear o5h'
  have o6_0h' := Lib.hid (own_kept o6_0h.out c7)
  clear o6_0h
  have t7 : Below w.heap.size w w7 := also t6 c7
  go_wp2_with fail
  have Hx := Lib.hid (fun W' (hW : Below w7.heap.size w7 W') => toDayProfile_any x0 n0 p0 a0 W' (h0.kept (also t7 hW)) (by omega))
  have Hr := Lib.hid (own_rd o4h'''.out)
  go_region_held3 (fun w' => w'.cell? ⟨w4.heap.size, 0, none⟩ = some (.slice A4 n0 d4) ∧ w'.cell? ⟨w.heap.size, 0, none⟩ = some (.slice x0 n0 p0) ∧ Below w7.heap.size w7 w') (first | (go_split_ands; refine held2 f24 f22 ?_; first | exact (Below.refl _ _).drew | exact also (by assumption) (by assumption) | exact below_drewN (by assumption) _)) (first | (go_at_call 15; (with_reducible refine (Hx.out _ (by first | exact (Below.refl _ _).drew | (go_split_ands; assumption))).mono ?_); rintro e w8 ⟨A8, d8, rfl, o8, b8⟩; have O8 := Lib.hid (own_rd o8); clear o8) | (go_at_call 10; refine (eqDayProfile_below A4 A8 n0 d4 d8 a0 _ (Hr.out.kept (by go_split_ands; assumption)) O8.out (by omega)).mono ?_; rintro e w8x ⟨rfl, b8x⟩))
  rename_i hS
  have b8y := hS.2.2
  clear hS Hx Hr
  have c8x : Below w7.heap.size w7 w8x := b8y
  have f26 : w8x.cell? ⟨w.heap.size, 0, none⟩ = some (.slice x0 n0 p0) := later c8x f22
  have f27 : w8x.cell? ⟨w.heap.size + 1, 0, none⟩ = some (.slice x1 n1 p1) := later c8x f23
  have f28 : w8x.cell? ⟨w4.heap.size, 0, none⟩ = some (.slice A4 n0 d4) := later c8x f24
  have f29 : w8x.cell? ⟨w5.heap.size, 0, none⟩ = some (.slice A5 n1 d5) := later c8x f25
  clear f22 f22q f23 f23q f24 f24q f25 f25q
  have f26q : w.heap.size < w8x.heap.size := World.block_lt_of_cell? _ _ f26
  have f27q : w.heap.size + 1 < w8x.heap.size := World.block_lt_of_cell? _ _ f27
  have f28q : w4.heap.size < w8x.heap.size := World.block_lt_of_cell? _ _ f28
  have f29q : w5.heap.size < w8x.heap.size := World.block_lt_of_cell? _ _ f29
  have s8x := c8x.size
  have o3_0h''''' := Lib.hid (own_kept o3_0h''''.out c8x)
  clear o3_0h''''
  have o4h'''' := Lib.hid (own_kept o4h'''.out c8x)
  clear o4h'''
  have o5h''' := Lib.hid (own_kept o5h''.out c8x)
  clear o5h''
  have o6_0h'' := Lib.hid (own_kept o6_0h'.out c8x)
  clear o6_0h'
  have t8x : Below w.heap.size w w8x := also t7 c8x
  go_wp2_with fail
  have Hx := Lib.hid (fun W' (hW : Below w8x.heap.size w8x W') => toDayProfile_any x1 n1 p1 a1 W' (h1.kept (also t8x hW)) (by omega))
  have Hr := Lib.hid (own_rd o5h'''.out)
  go_region_held3 (fun w' => w'.cell? ⟨w5.heap.size, 0, none⟩ = some (.slice A5 n1 d5) ∧ w'.cell? ⟨w.heap.size + 1, 0, none⟩ = some (.slice x1 n1 p1) ∧ Below w8x.heap.size w8x w') (first | (go_split_ands; refine held2 f29 f27 ?_; first | exact (Below.refl _ _).drew | exact also (by assumption) (by assumption) | exact below_drewN (by assumption) _)) (first | (go_at_call 15; (with_reducible refine (Hx.out _ (by first | exact (Below.refl _ _).drew | (go_split_ands; assumption))).mono ?_); rintro e w9 ⟨A9, d9, rfl, o9, b9⟩; have O9 := Lib.hid (own_rd o9); clear o9) | (go_at_call 10; refine (eqDayProfile_below A5 A9 n1 d5 d9 a1 _ (Hr.out.kept (by go_split_ands; assumption)) O9.out (by omega)).mono ?_; rintro e w9x ⟨rfl, b9x⟩))
  rename_i hS
  have b9y := hS.2.2
  clear hS Hx Hr
  have c9x : Below w8x.heap.size w8x w9x := b9y
  have f30 : w9x.cell? ⟨w.heap.size, 0, none⟩ = some (.slice x0 n0 p0) := later c9x f26
  have f31 : w9x.cell? ⟨w.heap.size + 1, 0, none⟩ = some (.slice x1 n1 p1) := later c9x f27
  have f32 : w9x.cell? ⟨w4.heap.size, 0, none⟩ = some (.slice A4 n0 d4) := later c9x f28
  have f33 : w9x.cell? ⟨w5.heap.size, 0, none⟩ = some (.slice A5 n1 d5) := later c9x f29
  clear f26 f26q f27 f27q f28 f28q f29 f29q
  have f30q : w.heap.size < w9x.heap.size := World.block_lt_of_cell? _ _ f30
  have f31q : w.heap.size + 1 < w9x.heap.size := World.block_lt_of_cell? _ _ f31
  have f32q : w4.heap.size < w9x.heap.size := World.block_lt_of_cell? _ _ f32
  have f33q : w5.heap.size < w9x.heap.size := World.block_lt_of_cell? _ _ f33
  have s9x := c9x.size
  have o3_0h'''''' := Lib.hid (own_kept o3_0h'''''.out c9x)
  clear o3_0h'''''
  have o4h''''' := Lib.hid (own_kept o4h''''.out c9x)
  clear o4h''''
  have o5h'''' := Lib.hid (own_kept o5h'''.out c9x)
  clear o5h'''
  have o6_0h''' := Lib.hid (own_kept o6_0h''.out c9x)
  clear o6_0h''
  have t9x : Below w.heap.size w w9x := also t8x c9x
  go_wp2_with fail
  refine (markDayProfile_any A4 n0 d4 _ _ (a0) _ o4h'''''.out (by omega) (by omega) (by omega)).mono ?_
  rintro e w10 ⟨rfl, o10, g10⟩
  have t10 : Below w.heap.size w w10 := Below.grown t9x g10 (by have := t9x.size; simp; omega) (fun j h => by have h2 := o4l.out j h; omega)
  have z10 : w9x.heap.size ≤ w10.heap.size := by have := g10.size; (try simp at this); omega
  have f34 : w10.cell? ⟨w.heap.size, 0, none⟩ = some (.slice x0 n0 p0) := g10.cell (f30) (fun e => by have h := o4l.out _ e.symm; dsimp only at h; omega)
  have f35 : w10.cell? ⟨w.heap.size + 1, 0, none⟩ = some (.slice x1 n1 p1) := g10.cell (f31) (fun e => by have h := o4l.out _ e.symm; dsimp only at h; omega)
  have f36 : w10.cell? ⟨w4.heap.size, 0, none⟩ = some (.slice A4 n0 d4) := g10.cell (f32) (fun e => by have h := o4l.out _ e.symm; dsimp only at h; omega)
  have f37 : w10.cell? ⟨w5.heap.size, 0, none⟩ = some (.slice A5 n1 d5) := g10.cell (f33) (fun e => by have h := o4l.out _ e.symm; dsimp only at h; omega)
  clear f30 f30q f31 f31q f32 f32q f33 f33q
  have f34q : w.heap.size < w10.heap.size := World.block_lt_of_cell? _ _ f34
  have f35q : w.heap.size + 1 < w10.heap.size := World.block_lt_of_cell? _ _ f35
  have f36q : w4.heap.size < w10.heap.size := World.block_lt_of_cell? _ _ f36
  have f37q : w5.heap.size < w10.heap.size := World.block_lt_of_cell? _ _ f37
  have o3_0h''''''' := Lib.hid (own_grown o3_0h''''''.out g10 (fun j h1 h2 => by have q1 := o3_0l.out j h1; have q2 := o4l.out j h2; omega))
  clear o3_0h''''''
  have o5h''''' := Lib.hid (own_grown o5h''''.out g10 (fun j h1 h2 => by have q1 := o5l.out j h1; have q2 := o4l.out j h2; omega))
  clear o5h''''
  have o6_0h'''' := Lib.hid (own_grown o6_0h'''.out g10 (fun j h1 h2 => by have q1 := o6_0l.out j h1; have q2 := o4l.out j h2; omega))
  clear o6_0h'''
  have o10h := Lib.hid o10
  clear o10 g10 o4h'''''
  go_wp2_with fail
  refine (markDayProfile_any A5 n1 d5 _ _ (a1) _ o5h'''''.out (by omega) (by omega) (by omega)).mono ?_
  rintro e w11 ⟨rfl, o11, g11⟩
  have t11 : Below w.heap.size w w11 := Below.grown t10 g11 (by have := t10.size; simp; omega) (fun j h => by have h2 := o5l.out j h; omega)
  have z11 : w10.heap.size ≤ w11.heap.size := by have := g11.size; (try simp at this); omega
  have f38 : w11.cell? ⟨w.heap.size, 0, none⟩ = some (.slice x0 n0 p0) := g11.cell (f34) (fun e => by have h := o5l.out _ e.symm; dsimp only at h; omega)
  have f39 : w11.cell? ⟨w.heap.size + 1, 0, none⟩ = some (.slice x1 n1 p1) := g11.cell (f35) (fun e => by have h := o5l.out _ e.symm; dsimp only at h; omega)
  have f40 : w11.cell? ⟨w4.heap.size, 0, none⟩ = some (.slice A4 n0 d4) := g11.cell (f36) (fun e => by have h := o5l.out _ e.symm; dsimp only at h; omega)
  have f41 : w11.cell? ⟨w5.heap.size, 0, none⟩ = some (.slice A5 n1 d5) := g11.cell (f37) (fun e => by have h := o5l.out _ e.symm; dsimp only at h; omega)
  clear f34 f34q f35 f35q f36 f36q f37 f37q
  have f38q : w.heap.size < w11.heap.size := World.block_lt_of_cell? _ _ f38
  have f39q : w.heap.size + 1 < w11.heap.size := World.block_lt_of_cell? _ _ f39
  have f40q : w4.heap.size < w11.heap.size := World.block_lt_of_cell? _ _ f40
  have f41q : w5.heap.size < w11.heap.size := World.block_lt_of_cell? _ _ f41
  have o3_0h'''''''' := Lib.hid (own_grown o3_0h'''''''.out g11 (fun j h1 h2 => by have q1 := o3_0l.out j h1; have q2 := o5l.out j h2; omega))
  clear o3_0h'''''''
  have o10h' := Lib.hid (own_grown o10h.out g11 (fun j h1 h2 => by have q1 := o4l.out j h1; have q2 := o5l.out j h2; omega))
  clear o10h
  have o6_0h''''' := Lib.hid (own_grown o6_0h''''.out g11 (fun j h1 h2 => by have q1 := o6_0l.out j h1; have q2 := o5l.out j h2; omega))
  clear o6_0h''''
  have o11h := Lib.hid o11
  clear o11 g11 o5h'''''
  go_wp2_with fail
  refine (eqIntS_below A6_0 A3_0 v0n d6_0 d3_0 v0 _ (own_rd o6_0h'''''.out) (own_rd o3_0h''''''''.out) (by omega)).mono ?_
  rintro e w12 ⟨rfl, b12⟩
  have c12 : Below w11.heap.size w11 w12 := b12
  have f42 : w12.cell? ⟨w.heap.size, 0, none⟩ = some (.slice x0 n0 p0) := later c12 f38
  have f43 : w12.cell? ⟨w.heap.size + 1, 0, none⟩ = some (.slice x1 n1 p1) := later c12 f39
  have f44 : w12.cell? ⟨w4.heap.size, 0, none⟩ = some (.slice A4 n0 d4) := later c12 f40
  have f45 : w12.cell? ⟨w5.heap.size, 0, none⟩ = some (.slice A5 n1 d5) := later c12 f41
  clear f38 f38q f39 f39q f40 f40q f41 f41q
  have f42q : w.heap.size < w12.heap.size := World.block_lt_of_cell? _ _ f42
  have f43q : w.heap.size + 1 < w12.heap.size := World.block_lt_of_cell? _ _ f43
  have f44q : w4.heap.size < w12.heap.size := World.block_lt_of_cell? _ _ f44
  have f45q : w5.heap.size < w12.heap.size := World.block_lt_of_cell? _ _ f45
  have s12 := c12.size
  have o3_0h''''''''' := Lib.hid (own_kept o3_0h''''''''.out c12)
  clear o3_0h''''''''
  have o10h'' := Lib.hid (own_kept o10h'.out c12)
  clear o10h'
  have o11h' := Lib.hid (own_kept o11h.out c12)
  clear o11h
  have o6_0h'''''' := Lib.hid (own_kept o6_0h'''''.out c12)
  clear o6_0h'''''
  have t12 : Below w.heap.size w w12 := also t11 c12
  go_wp2_with fail
  refine (markIntS_any A6_0 v0n d6_0 _ _ v0 _ o6_0h''''''.out (by omega) (by omega) (by omega)).mono ?_
  rintro e w13 ⟨rfl, o13, g13⟩
  have t13 : Below w.heap.size w w13 := Below.grown t12 g13 (by have := t12.size; simp; omega) (fun j h => by have h2 := o6_0l.out j h; omega)
  have z13 : w12.heap.size ≤ w13.heap.size := by have := g13.size; (try simp at this); omega
  have f46 : w13.cell? ⟨w.heap.size, 0, none⟩ = some (.slice x0 n0 p0) := g13.cell (f42) (fun e => by have h := o6_0l.out _ e.symm; dsimp only at h; omega)
  have f47 : w13.cell? ⟨w.heap.size + 1, 0, none⟩ = some (.slice x1 n1 p1) := g13.cell (f43) (fun e => by have h := o6_0l.out _ e.symm; dsimp only at h; omega)
  have f48 : w13.cell? ⟨w4.heap.size, 0, none⟩ = some (.slice A4 n0 d4) := g13.cell (f44) (fun e => by have h := o6_0l.out _ e.symm; dsimp only at h; omega)
  have f49 : w13.cell? ⟨w5.heap.size, 0, none⟩ = some (.slice A5 n1 d5) := g13.cell (f45) (fun e => by have h := o6_0l.out _ e.symm; dsimp only at h; omega)
  clear f42 f42q f43 f43q f44 f44q f45 f45q
  have f46q : w.heap.size < w13.heap.size := World.block_lt_of_cell? _ _ f46
  have f47q : w.heap.size + 1 < w13.heap.size := World.block_lt_of_cell? _ _ f47
  have f48q : w4.heap.size < w13.heap.size := World.block_lt_of_cell? _ _ f48
  have f49q : w5.heap.size < w13.heap.size := World.block_lt_of_cell? _ _ f49
  have o3_0h'''''''''' := Lib.hid (own_grown o3_0h'''''''''.out g13 (fun j h1 h2 => by have q1 := o3_0l.out j h1; have q2 := o6_0l.out j h2; omega))
  clear o3_0h'''''''''
  have o10h''' := Lib.hid (own_grown o10h''.out g13 (fun j h1 h2 => by have q1 := o4l.out j h1; have q2 := o6_0l.out j h2; omega))
  clear o10h''
  have o11h'' := Lib.hid (own_grown o11h'.out g13 (fun j h1 h2 => by have q1 := o5l.out j h1; have q2 := o6_0l.out j h2; omega))
  clear o11h'
  have o13h := Lib.hid o13
  clear o13 g13 o6_0h''''''
  go_wp2_with fail
  refine (heldIntS_below A6_0 v0n d6_0 _ _ (own_rd o13h.out) (by omega) (by omega) (by omega)).mono ?_
  rintro e w14 ⟨rfl, b14⟩
  have c14 : Below w13.heap.size w13 w14 := b14
  have f50 : w14.cell? ⟨w.heap.size, 0, none⟩ = some (.slice x0 n0 p0) := later c14 f46
  have f51 : w14.cell? ⟨w.heap.size + 1, 0, none⟩ = some (.slice x1 n1 p1) := later c14 f47
  have f52 : w14.cell? ⟨w4.heap.size, 0, none⟩ = some (.slice A4 n0 d4) := later c14 f48
  have f53 : w14.cell? ⟨w5.heap.size, 0, none⟩ = some (.slice A5 n1 d5) := later c14 f49
  clear f46 f46q f47 f47q f48 f48q f49 f49q
  have f50q : w.heap.size < w14.heap.size := World.block_lt_of_cell? _ _ f50
  have f51q : w.heap.size + 1 < w14.heap.size := World.block_lt_of_cell? _ _ f51
  have f52q : w4.heap.size < w14.heap.size := World.block_lt_of_cell? _ _ f52
  have f53q : w5.heap.size < w14.heap.size := World.block_lt_of_cell? _ _ f53
  have s14 := c14.size
  have o3_0h''''''''''' := Lib.hid (own_kept o3_0h''''''''''.out c14)
  clear o3_0h''''''''''
  have o10h'''' := Lib.hid (own_kept o10h'''.out c14)
  clear o10h'''
  have o11h''' := Lib.hid (own_kept o11h''.out c14)
  clear o11h''
  have o13h' := Lib.hid (own_kept o13h.out c14)
  clear o13h
  have t14 : Below w.heap.size w w14 := also t13 c14
  go_wp2_with fail
  have Hx0 := Lib.hid (fun W' (hW : Below w14.heap.size w14 W') => toDayProfile_any x0 n0 p0 a0 W' (h0.kept (also t14 hW)) (by omega))
  have Hx1 := Lib.hid (fun W' (hW : Below w14.heap.size w14 W') => toDayProfile_any x1 n1 p1 a1 W' (h1.kept (also t14 hW)) (by omega))
  go_region_held3 (fun w' => w'.cell? ⟨w.heap.size, 0, none⟩ = some (.slice x0 n0 p0) ∧ w'.cell? ⟨w.heap.size + 1, 0, none⟩ = some (.slice x1 n1 p1) ∧ Below w14.heap.size w14 w') (first | (go_split_ands; refine held2 f50 f51 ?_; first | exact (Below.refl _ _).drew | exact also (by assumption) (by assumption) | exact below_drewN (by assumption) _)) (first | (go_at_call 15; (with_reducible refine (Hx0.out _ (by first | exact (Below.refl _ _).drew | (go_split_ands; assumption))).mono ?_); rintro e w15c0 ⟨A15c0, d15c0, rfl, o15c0, b15c0⟩; have s15c0 : w14.heap.size ≤ w15c0.heap.size := b15c0.size; have O15c0 := Lib.hid (own_rd o15c0); have B15c0 := Lib.hid b15c0; clear o15c0) | (go_at_call 15; (with_reducible refine (Hx1.out _ (by first | exact (Below.refl _ _).drew | (go_split_ands; assumption))).mono ?_); rintro e w15c1 ⟨A15c1, d15c1, rfl, o15c1, b15c1⟩; have s15c1 : w15c0.heap.size ≤ w15c1.heap.size := b15c1.size; have O15c1 := Lib.hid (own_rd o15c1); have B15c1 := Lib.hid b15c1; clear o15c1) | (go_at_call 20; refine (Ci.out A15c0 d15c0 A15c1 d15c1 _ (rd_later B15c1.out O15c0.out) O15c1.out).mono ?_; rintro e w15 ⟨A15_0, d15_0, rfl, o15_0, b15⟩; have P15_0 := Lib.hid o15_0; clear o15_0))
  rename_i hS
  have b15y : Below w14.heap.size w14 w15 := hS.2.2
  clear hS Hx0 Hx1
  have c15 : Below w14.heap.size w14 w15 := b15y
  have f54 : w15.cell? ⟨w.heap.size, 0, none⟩ = some (.slice x0 n0 p0) := later c15 f50
  have f55 : w15.cell? ⟨w.heap.size + 1, 0, none⟩ = some (.slice x1 n1 p1) := later c15 f51
  have f56 : w15.cell? ⟨w4.heap.size, 0, none⟩ = some (.slice A4 n0 d4) := later c15 f52
  have f57 : w15.cell? ⟨w5.heap.size, 0, none⟩ = some (.slice A5 n1 d5) := later c15 f53
  clear f50 f50q f51 f51q f52 f52q f53 f53q
  have f54q : w.heap.size < w15.heap.size := World.block_lt_of_cell? _ _ f54
  have f55q : w.heap.size + 1 < w15.heap.size := World.block_lt_of_cell? _ _ f55
  have f56q : w4.heap.size < w15.heap.size := World.block_lt_of_cell? _ _ f56
  have f57q : w5.heap.size < w15.heap.size := World.block_lt_of_cell? _ _ f57
  have s15 := c15.size
  have o3_0h'''''''''''' := Lib.hid (own_kept o3_0h'''''''''''.out c15)
  clear o3_0h'''''''''''
  have o10h''''' := Lib.hid (own_kept o10h''''.out c15)
  clear o10h''''
  have o11h'''' := Lib.hid (own_kept o11h'''.out c15)
  clear o11h'''
  have o13h'' := Lib.hid (own_kept o13h'.out c15)
  clear o13h'
  have t15 : Below w.heap.size w w15 := also t14 c15
  have o15_0 := own_base (base' := w14.heap.size) P15_0.out (Nat.le_trans s15c0 s15c1)
  have o15_0l := Lib.hid (fun j h => World.ownsRow.lt o15_0 j h)
  have o15_0h := Lib.hid o15_0
  clear o15_0 P15_0
  go_wp2_with fail
  refine (eqIntS_below A15_0 A3_0 v0n d15_0 d3_0 v0 _ (own_rd o15_0h.out) (own_rd o3_0h''''''''''''.out) (by omega)).mono ?_
  rintro e w16 ⟨rfl, b16⟩
  have c16 : Below w15.heap.size w15 w16 := b16
  have f58 : w16.cell? ⟨w.heap.size, 0, none⟩ = some (.slice x0 n0 p0) := later c16 f54
  have f59 : w16.cell? ⟨w.heap.size + 1, 0, none⟩ = some (.slice x1 n1 p1) := later c16 f55
  have f60 : w16.cell? ⟨w4.heap.size, 0, none⟩ = some (.slice A4 n0 d4) := later c16 f56
  have f61 : w16.cell? ⟨w5.heap.size, 0, none⟩ = some (.slice A5 n1 d5) := later c16 f57
  clear f54 f54q f55 f55q f56 f56q f57 f57q
  have f58q : w.heap.size < w16.heap.size := World.block_lt_of_cell? _ _ f58
  have f59q : w.heap.size + 1 < w16.heap.size := World.block_lt_of_cell? _ _ f59
  have f60q : w4.heap.size < w16.heap.size := World.block_lt_of_cell? _ _ f60
  have f61q : w5.heap.size < w16.heap.size := World.block_lt_of_cell? _ _ f61
  have s16 := c16.size
  have o3_0h''''''''''''' := Lib.hid (own_kept o3_0h''''''''''''.out c16)
  clear o3_0h''''''''''''
  have o10h'''''' := Lib.hid (own_kept o10h'''''.out c16)
  clear o10h'''''
  have o11h''''' := Lib.hid (own_kept o11h''''.out c16)
  clear o11h''''
  have o13h''' := Lib.hid (own_kept o13h''.out c16)
  clear o13h''
  have o15_0h' := Lib.hid (own_kept o15_0h.out c16)
  clear o15_0h
  have t16 : Below w.heap.size w w16 := also t15 c16
  go_wp2_with fail
  refine (heldIntS_below A6_0 v0n d6_0 _ _ (own_rd o13h'''.out) (by omega) (by omega) (by omega)).mono ?_
  rintro e w17 ⟨rfl, b17⟩
  have c17 : Below w16.heap.size w16 w17 := b17
  have f62 : w17.cell? ⟨w.heap.size, 0, none⟩ = some (.slice x0 n0 p0) := later c17 f58
  have f63 : w17.cell? ⟨w.heap.size + 1, 0, none⟩ = some (.slice x1 n1 p1) := later c17 f59
  have f64 : w17.cell? ⟨w4.heap.size, 0, none⟩ = some (.slice A4 n0 d4) := later c17 f60
  have f65 : w17.cell? ⟨w5.heap.size, 0, none⟩ = some (.slice A5 n1 d5) := later c17 f61
  clear f58 f58q f59 f59q f60 f60q f61 f61q
  have f62q : w.heap.size < w17.heap.size := World.block_lt_of_cell? _ _ f62
  have f63q : w.heap.size + 1 < w17.heap.size := World.block_lt_of_cell? _ _ f63
  have f64q : w4.heap.size < w17.heap.size := World.block_lt_of_cell? _ _ f64
  have f65q : w5.heap.size < w17.heap.size := World.block_lt_of_cell? _ _ f65
  have s17 := c17.size
  have o3_0h'''''''''''''' := Lib.hid (own_kept o3_0h'''''''''''''.out c17)
  clear o3_0h'''''''''''''
  have o10h''''''' := Lib.hid (own_kept o10h''''''.out c17)
  clear o10h''''''
  have o11h'''''' := Lib.hid (own_kept o11h'''''.out c17)
  clear o11h'''''
  have o13h'''' := Lib.hid (own_kept o13h'''.out c17)
  clear o13h'''
  have o15_0h'' := Lib.hid (own_kept o15_0h'.out c17)
  clear o15_0h'
  have t17 : Below w.heap.size w w17 := also t16 c17
  go_wp2_with fail
  all_goals go_ret
  all_goals exact ⟨rfl, t17⟩

end Go.Proofs.Ytanedebkpcpknaa
