/- The walk of the law FnExactIsValidNetwork. -/
import Derived.Test.YtmfapokolgnnhaaIsValidNetwork
import Derived.Test.YtmfapokolgnnhaaNetH
import Derived.Test.YtmfapokolgnnhaaRows
import Derived.Deep.RegionHeld3
namespace Go.Proofs.Ytmfapokolgnnhaa
open Go.RowKit
set_option linter.unusedVariables false

set_option maxRecDepth 100000 in
set_option maxHeartbeats 2000000 in
theorem w_FnExactIsValidNetwork (m0 : Int) (x0 : Option Addr) (n0 p0 : Nat) (a0 : List Pp) (w : World) (H0 : wf64 m0 ∧ a0.length = n0 ∧ Rd w 4 x0 n0 (pipesV a0) ∧ n0 ≤ maxLen ∧ ∀ p ∈ a0, p.wf) :
    Calls Try.prog 3 #[.agg #[.int .i64 m0, .slice x0 n0 p0]] w fun e w' => e = .returned (.bool true) ∧ Below w.heap.size w w' := by
  obtain ⟨_, _, h0, z0, _⟩ := H0
  unfold maxLen at z0
  by_cases e0 : (n0 : Int) ≤ 1048576
  rotate_left
  · have E0 := Lib.hid (szL_neg e0)
    go_enter Try.func3, Try.ntmps3
    go_wp2_with fail
    refine (szNetwork_any m0 x0 n0 p0 a0 (1048576) _ (h0.kept (below_a1 _ _)) (by omega) (by omega) (by omega)).mono ?_
    rintro e w1 ⟨rfl, b1⟩
    have c1 : Below w.heap.size w w1 := below_step (below_a1 _ _) b1 (by simp <;> omega)
    have f1 : w1.cell? ⟨w.heap.size, 0, none⟩ = some (.int .i64 m0) := (keeps b1 _ _ (by simp <;> omega)).trans (by simp [go_sem])
    have f2 : w1.cell? ⟨w.heap.size, 1, none⟩ = some (.slice x0 n0 p0) := (keeps b1 _ _ (by simp <;> omega)).trans (by simp [go_sem])
    have f1q : w.heap.size < w1.heap.size := World.block_lt_of_cell? _ _ f1
    have s1 : w.heap.size + 1 ≤ w1.heap.size := by have := b1.size; simp at this; omega
    have t1 : Below w.heap.size w w1 := c1
    rw [E0.out]
    go_wp2_with fail
    all_goals go_ret
    all_goals exact ⟨rfl, t1⟩
  have cs := fun (A0 : Option Addr) (d0 : Nat) (W : World) (H0 : Rd W 4 A0 n0 (pipesV a0)) => IsValidNetwork_spec m0 A0 n0 d0 a0 W H0 (by omega)
  have ci := fun (A0 : Option Addr) (d0 : Nat) (W : World) (H0 : Rd W 4 A0 n0 (pipesV a0)) => IsValidNetwork_impl m0 A0 n0 d0 a0 W H0 (by omega)
  generalize IsValidNetwork_v0 m0 a0 = v0 at cs ci
  have Cs := Lib.hid cs
  have Ci := Lib.hid ci
  clear cs ci
  have E0 := Lib.hid (szL_pos e0)
  go_enter Try.func3, Try.ntmps3
  go_wp2_with fail
  refine (szNetwork_any m0 x0 n0 p0 a0 (1048576) _ (h0.kept (below_a1 _ _)) (by omega) (by omega) (by omega)).mono ?_
  rintro e w1 ⟨rfl, b1⟩
  have c1 : Below w.heap.size w w1 := below_step (below_a1 _ _) b1 (by simp <;> omega)
  have f3 : w1.cell? ⟨w.heap.size, 0, none⟩ = some (.int .i64 m0) := (keeps b1 _ _ (by simp <;> omega)).trans (by simp [go_sem])
  have f4 : w1.cell? ⟨w.heap.size, 1, none⟩ = some (.slice x0 n0 p0) := (keeps b1 _ _ (by simp <;> omega)).trans (by simp [go_sem])
  have f3q : w.heap.size < w1.heap.size := World.block_lt_of_cell? _ _ f3
  have s1 : w.heap.size + 1 ≤ w1.heap.size := by have := b1.size; simp at this; omega
  have t1 : Below w.heap.size w w1 := c1
  rw [E0.out]
  go_wp2_with fail
  refine (toNetwork_any m0 x0 n0 p0 a0 _ (h0.kept t1) (by omega)).mono ?_
  rintro e w2 ⟨A2, d2, rfl, o2, b2⟩
  have c2 : Below w1.heap.size w1 w2 := b2
  have f5 : w2.cell? ⟨w.heap.size, 0, none⟩ = some (.int .i64 m0) := later c2 f3
  have f6 : w2.cell? ⟨w.heap.size, 1, none⟩ = some (.slice x0 n0 p0) := later c2 f4
  clear f3 f3q f4
  have f5q : w.heap.size < w2.heap.size := World.block_lt_of_cell? _ _ f5
  have s2 := c2.size
  have t2 : Below w.heap.size w w2 := also t1 c2
  have o2b := own_base (base' := w1.heap.size) o2 (by simp <;> omega)
  have o2l := Lib.hid (fun j h => World.ownsRow.lt o2b j h)
  have o2h := Lib.hid o2b
  clear o2 o2b
  go_wp2_with fail
  refine (Cs.out A2 d2 _ (own_rd o2h.out)).mono ?_
  rintro e w3 ⟨rfl, b3⟩
  have c3 : Below w2.heap.size w2 w3 := b3
  have f7 : w3.cell? ⟨w.heap.size, 0, none⟩ = some (.int .i64 m0) := later c3 f5
  have f8 : w3.cell? ⟨w.heap.size, 1, none⟩ = some (.slice x0 n0 p0) := later c3 f6
  clear f5 f5q f6
  have f7q : w.heap.size < w3.heap.size := World.block_lt_of_cell? _ _ f7
  have s3 := c3.size
  have o2h' := Lib.hid (own_kept o2h.out c3)
  clear o2h
  have t3 : Below w.heap.size w w3 := also t2 c3
  go_wp2_with fail
  refine (toNetwork_any m0 x0 n0 p0 a0 _ (h0.kept t3) (by omega)).mono ?_
  rintro e w4 ⟨A4, d4, rfl, o4, b4⟩
  have c4 : Below w3.heap.size w3 w4 := b4
  have f9 : w4.cell? ⟨w.heap.size, 0, none⟩ = some (.int .i64 m0) := later c4 f7
  have f10 : w4.cell? ⟨w.heap.size, 1, none⟩ = some (.slice x0 n0 p0) := later c4 f8
  clear f7 f7q f8
  have f9q : w.heap.size < w4.heap.size := World.block_lt_of_cell? _ _ f9
  have s4 := c4.size
  have o2h'' := Lib.hid (own_kept o2h'.out c4)
  clear o2h'
  have t4 : Below w.heap.size w w4 := also t3 c4
  have o4b := own_base (base' := w3.heap.size) o4 (by simp <;> omega)
  have o4l := Lib.hid (fun j h => World.ownsRow.lt o4b j h)
  have o4h := Lib.hid o4b
  clear o4 o4b
  go_wp2_with fail
  refine (Ci.out A4 d4 _ ((own_rd o4h.out).kept (below_a1 _ _))).mono ?_
  rintro e w5 ⟨rfl, b5⟩
  have c5 : Below w4.heap.size w4 w5 := below_step (below_a1 _ _) b5 (by simp <;> omega)
  have f11 : w5.cell? ⟨w.heap.size, 0, none⟩ = some (.int .i64 m0) := later c5 f9
  have f12 : w5.cell? ⟨w.heap.size, 1, none⟩ = some (.slice x0 n0 p0) := later c5 f10
  have f13 : w5.cell? ⟨w4.heap.size, 0, none⟩ = some (.int .i64 m0) := (keeps b5 _ _ (by simp <;> omega)).trans (by simp [go_sem])
  have f14 : w5.cell? ⟨w4.heap.size, 1, none⟩ = some (.slice A4 n0 d4) := (keeps b5 _ _ (by simp <;> omega)).trans (by simp [go_sem])
  clear f9 f9q f10
  have f11q : w.heap.size < w5.heap.size := World.block_lt_of_cell? _ _ f11
  have f13q : w4.heap.size < w5.heap.size := World.block_lt_of_cell? _ _ f13
  have s5 : w4.heap.size + 1 ≤ w5.heap.size := by have := b5.size; simp at this; omega
  have o2h''' := Lib.hid (own_kept o2h''.out c5)
  clear o2h''
  have o4h' := Lib.hid (own_kept o4h.out c5)
  clear o4h
  have t5 : Below w.heap.size w w5 := also t4 c5
  go_wp2_with fail
  have Hx := Lib.hid (fun W' (hW : Below w5.heap.size w5 W') => toNetwork_any m0 x0 n0 p0 a0 W' (h0.kept (also t5 hW)) (by omega))
  have Hr := Lib.hid (own_rd o4h'.out)
  go_region_held3 (fun w' => w'.cell? ⟨w4.heap.size, 0, none⟩ = some (.int .i64 m0) ∧ w'.cell? ⟨w4.heap.size, 1, none⟩ = some (.slice A4 n0 d4) ∧ w'.cell? ⟨w.heap.size, 0, none⟩ = some (.int .i64 m0) ∧ w'.cell? ⟨w.heap.size, 1, none⟩ = some (.slice x0 n0 p0) ∧ Below w5.heap.size w5 w') (first | (go_split_ands; refine held4 f13 f14 f11 f12 ?_; first | exact (Below.refl _ _).drew | exact also (by assumption) (by assumption) | exact below_drewN (by assumption) _)) (first | (go_at_call 15; (with_reducible refine (Hx.out _ (by first | exact (Below.refl _ _).drew | (go_split_ands; assumption))).mono ?_); rintro e w6 ⟨A6, d6, rfl, o6, b6⟩; have O6 := Lib.hid (own_rd o6); clear o6) | (go_at_call 17; refine (eqNetwork_below m0 A4 A6 n0 d4 d6 a0 _ (Hr.out.kept (by go_split_ands; assumption)) O6.out (by omega)).mono ?_; rintro e w6x ⟨rfl, b6x⟩))
  rename_i hS
  have b6y := hS.2.2.2.2
  clear hS Hx Hr
  have c6x : Below w5.heap.size w5 w6x := b6y
  have f15 : w6x.cell? ⟨w.heap.size, 0, none⟩ = some (.int .i64 m0) := later c6x f11
  have f16 : w6x.cell? ⟨w.heap.size, 1, none⟩ = some (.slice x0 n0 p0) := later c6x f12
  have f17 : w6x.cell? ⟨w4.heap.size, 0, none⟩ = some (.int .i64 m0) := later c6x f13
  have f18 : w6x.cell? ⟨w4.heap.size, 1, none⟩ = some (.slice A4 n0 d4) := later c6x f14
  clear f11 f11q f12 f13 f13q f14
  have f15q : w.heap.size < w6x.heap.size := World.block_lt_of_cell? _ _ f15
  have f17q : w4.heap.size < w6x.heap.size := World.block_lt_of_cell? _ _ f17
  have s6x := c6x.size
  have o2h'''' := Lib.hid (own_kept o2h'''.out c6x)
  clear o2h'''
  have o4h'' := Lib.hid (own_kept o4h'.out c6x)
  clear o4h'
  have t6x : Below w.heap.size w w6x := also t5 c6x
  go_wp2_with fail
  all_goals go_ret
  all_goals exact ⟨rfl, t6x⟩

end Go.Proofs.Ytmfapokolgnnhaa
