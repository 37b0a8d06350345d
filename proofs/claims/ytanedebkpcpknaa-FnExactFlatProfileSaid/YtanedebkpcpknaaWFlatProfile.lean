/- The walk of the law FnExactFlatProfile. -/
import Derived.Test.YtanedebkpcpknaaFlat
import Derived.Test.YtanedebkpcpknaaRows
import Derived.Deep.RegionHeld3
namespace Go.Proofs.Ytanedebkpcpknaa
open Go.RowKit
set_option linter.unusedVariables false

set_option maxRecDepth 100000 in
set_option maxHeartbeats 2000000 in
theorem w_FnExactFlatProfile (w : World) :
    Calls Try.prog 3 #[] w fun e w' => e = .returned (.bool true) ∧ Below w.heap.size w w' := by
  have cs := fun  (W : World)  => FlatProfile_spec  W  
  have ci := fun  (W : World)  => FlatProfile_impl  W  
  have v0b := FlatProfile_len 
  generalize FlatProfile_v0  = v0 at cs ci v0b
  generalize hv0 : v0.length = v0n at cs ci v0b
  clear hv0
  have Cs := Lib.hid cs
  have Ci := Lib.hid ci
  clear cs ci
  go_enter Try.func3, Try.ntmps3
  go_wp2_with fail
  refine (Cs.out  _ ).mono ?_
  rintro e w1 ⟨A1_0, d1_0, rfl, o1_0, b1⟩
  have c1 : Below w.heap.size w w1 := b1
  have s1 := c1.size
  have t1 : Below w.heap.size w w1 := c1
  have o1_0b := own_base (base' := w.heap.size) o1_0 (by simp <;> omega)
  have o1_0l := Lib.hid (fun j h => World.ownsRow.lt o1_0b j h)
  have o1_0h := Lib.hid o1_0b
  clear o1_0 o1_0b
  go_wp2_with fail
  refine (Ci.out  _ ).mono ?_
  rintro e w2 ⟨A2_0, d2_0, rfl, o2_0, b2⟩
  have c2 : Below w1.heap.size w1 w2 := below_step (below_a1 _ _) b2 (by simp <;> omega)
  have f1 : w2.cell? ⟨w1.heap.size, 0, none⟩ = some (.slice A1_0 v0n d1_0) := (keeps b2 _ _ (by simp <;> omega)).trans (by simp [go_sem])
  have f1q : w1.heap.size < w2.heap.size := World.block_lt_of_cell? _ _ f1
  have s2 : w1.heap.size + 1 ≤ w2.heap.size := by have := b2.size; simp at this; omega
  have o1_0h' := Lib.hid (own_kept o1_0h.out c2)
  clear o1_0h
  have t2 : Below w.heap.size w w2 := also t1 c2
  have o2_0b := own_base (base' := w1.heap.size + 1) o2_0 (by simp <;> omega)
  have o2_0l := Lib.hid (fun j h => World.ownsRow.lt o2_0b j h)
  have o2_0h := Lib.hid o2_0b
  clear o2_0 o2_0b
  go_wp2_with fail
  refine (eqDayProfile_below A2_0 A1_0 v0n d2_0 d1_0 v0 _ ((own_rd o2_0h.out).kept (below_a1 _ _)) ((own_rd o1_0h'.out).kept (below_a1 _ _)) (by omega)).mono ?_
  rintro e w3 ⟨rfl, b3⟩
  have c3 : Below w2.heap.size w2 w3 := below_step (below_a1 _ _) b3 (by simp <;> omega)
  have f2 : w3.cell? ⟨w1.heap.size, 0, none⟩ = some (.slice A1_0 v0n d1_0) := later c3 f1
  have f3 : w3.cell? ⟨w2.heap.size, 0, none⟩ = some (.slice A2_0 v0n d2_0) := (keeps b3 _ _ (by simp <;> omega)).trans (by simp [go_sem])
  clear f1 f1q
  have f2q : w1.heap.size < w3.heap.size := World.block_lt_of_cell? _ _ f2
  have f3q : w2.heap.size < w3.heap.size := World.block_lt_of_cell? _ _ f3
  have s3 : w2.heap.size + 1 ≤ w3.heap.size := by have := b3.size; simp at this; omega
  have o1_0h'' := Lib.hid (own_kept o1_0h'.out c3)
  clear o1_0h'
  have o2_0h' := Lib.hid (own_kept o2_0h.out c3)
  clear o2_0h
  have t3 : Below w.heap.size w w3 := also t2 c3
  go_wp2_with fail
  refine (markDayProfile_any A2_0 v0n d2_0 _ _ v0 _ o2_0h'.out (by omega) (by omega) (by omega)).mono ?_
  rintro e w4 ⟨rfl, o4, g4⟩
  have t4 : Below w.heap.size w w4 := Below.grown t3 g4 (by have := t3.size; simp; omega) (fun j h => by have h2 := o2_0l.out j h; omega)
  have z4 : w3.heap.size ≤ w4.heap.size := by have := g4.size; (try simp at this); omega
  have f4 : w4.cell? ⟨w1.heap.size, 0, none⟩ = some (.slice A1_0 v0n d1_0) := g4.cell (f2) (fun e => by have h := o2_0l.out _ e.symm; dsimp only at h; omega)
  have f5 : w4.cell? ⟨w2.heap.size, 0, none⟩ = some (.slice A2_0 v0n d2_0) := g4.cell (f3) (fun e => by have h := o2_0l.out _ e.symm; dsimp only at h; omega)
  clear f2 f2q f3 f3q
  have f4q : w1.heap.size < w4.heap.size := World.block_lt_of_cell? _ _ f4
  have f5q : w2.heap.size < w4.heap.size := World.block_lt_of_cell? _ _ f5
  have o1_0h''' := Lib.hid (own_grown o1_0h''.out g4 (fun j h1 h2 => by have q1 := o1_0l.out j h1; have q2 := o2_0l.out j h2; omega))
  clear o1_0h''
  have o4h := Lib.hid o4
  clear o4 g4 o2_0h'
  go_wp2_with fail
  refine (heldDayProfile_below A2_0 v0n d2_0 _ _ (own_rd o4h.out) (by omega) (by omega) (by omega)).mono ?_
  rintro e w5 ⟨rfl, b5⟩
  have c5 : Below w4.heap.size w4 w5 := b5
  have f6 : w5.cell? ⟨w1.heap.size, 0, none⟩ = some (.slice A1_0 v0n d1_0) := later c5 f4
  have f7 : w5.cell? ⟨w2.heap.size, 0, none⟩ = some (.slice A2_0 v0n d2_0) := later c5 f5
  clear f4 f4q f5 f5q
  have f6q : w1.heap.size < w5.heap.size := World.block_lt_of_cell? _ _ f6
  have f7q : w2.heap.size < w5.heap.size := World.block_lt_of_cell? _ _ f7
  have s5 := c5.size
  have o1_0h'''' := Lib.hid (own_kept o1_0h'''.out c5)
  clear o1_0h'''
  have o4h' := Lib.hid (own_kept o4h.out c5)
  clear o4h
  have t5 : Below w.heap.size w w5 := also t4 c5
  go_wp2_with fail
  refine (Ci.out  _ ).mono ?_
  rintro e w6 ⟨A6_0, d6_0, rfl, o6_0, b6⟩
  have c6 : Below w5.heap.size w5 w6 := b6
  have f8 : w6.cell? ⟨w1.heap.size, 0, none⟩ = some (.slice A1_0 v0n d1_0) := later c6 f6
  have f9 : w6.cell? ⟨w2.heap.size, 0, none⟩ = some (.slice A2_0 v0n d2_0) := later c6 f7
  clear f6 f6q f7 f7q
  have f8q : w1.heap.size < w6.heap.size := World.block_lt_of_cell? _ _ f8
  have f9q : w2.heap.size < w6.heap.size := World.block_lt_of_cell? _ _ f9
  have s6 := c6.size
  have o1_0h''''' := Lib.hid (own_kept o1_0h''''.out c6)
  clear o1_0h''''
  have o4h'' := Lib.hid (own_kept o4h'.out c6)
  clear o4h'
  have t6 : Below w.heap.size w w6 := also t5 c6
  have o6_0b := own_base (base' := w5.heap.size) o6_0 (by simp <;> omega)
  have o6_0l := Lib.hid (fun j h => World.ownsRow.lt o6_0b j h)
  have o6_0h := Lib.hid o6_0b
  clear o6_0 o6_0b
  go_wp2_with fail
  refine (eqDayProfile_below A6_0 A1_0 v0n d6_0 d1_0 v0 _ ((own_rd o6_0h.out).kept (below_a1 _ _)) ((own_rd o1_0h'''''.out).kept (below_a1 _ _)) (by omega)).mono ?_
  rintro e w7 ⟨rfl, b7⟩
  have c7 : Below w6.heap.size w6 w7 := below_step (below_a1 _ _) b7 (by simp <;> omega)
  have f10 : w7.cell? ⟨w1.heap.size, 0, none⟩ = some (.slice A1_0 v0n d1_0) := later c7 f8
  have f11 : w7.cell? ⟨w2.heap.size, 0, none⟩ = some (.slice A2_0 v0n d2_0) := later c7 f9
  have f12 : w7.cell? ⟨w6.heap.size, 0, none⟩ = some (.slice A6_0 v0n d6_0) := (keeps b7 _ _ (by simp <;> omega)).trans (by simp [go_sem])
  clear f8 f8q f9 f9q
  have f10q : w1.heap.size < w7.heap.size := World.block_lt_of_cell? _ _ f10
  have f11q : w2.heap.size < w7.heap.size := World.block_lt_of_cell? _ _ f11
  have f12q : w6.heap.size < w7.heap.size := World.block_lt_of_cell? _ _ f12
  have s7 : w6.heap.size + 1 ≤ w7.heap.size := by have := b7.size; simp at this; omega
  have o1_0h'''''' := Lib.hid (own_kept o1_0h'''''.out c7)
  clear o1_0h'''''
  have o4h''' := Lib.hid (own_kept o4h''.out c7)
  clear o4h''
  have o6_0h' := Lib.hid (own_kept o6_0h.out c7)
  clear o6_0h
  have t7 : Below w.heap.size w w7 := also t6 c7
  go_wp2_with fail
  refine (heldDayProfile_below A2_0 v0n d2_0 _ _ (own_rd o4h'''.out) (by omega) (by omega) (by omega)).mono ?_
  rintro e w8 ⟨rfl, b8⟩
  have c8 : Below w7.heap.size w7 w8 := b8
  have f13 : w8.cell? ⟨w1.heap.size, 0, none⟩ = some (.slice A1_0 v0n d1_0) := later c8 f10
  have f14 : w8.cell? ⟨w2.heap.size, 0, none⟩ = some (.slice A2_0 v0n d2_0) := later c8 f11
  have f15 : w8.cell? ⟨w6.heap.size, 0, none⟩ = some (.slice A6_0 v0n d6_0) := later c8 f12
  clear f10 f10q f11 f11q f12 f12q
  have f13q : w1.heap.size < w8.heap.size := World.block_lt_of_cell? _ _ f13
  have f14q : w2.heap.size < w8.heap.size := World.block_lt_of_cell? _ _ f14
  have f15q : w6.heap.size < w8.heap.size := World.block_lt_of_cell? _ _ f15
  have s8 := c8.size
  have o1_0h''''''' := Lib.hid (own_kept o1_0h''''''.out c8)
  clear o1_0h''''''
  have o4h'''' := Lib.hid (own_kept o4h'''.out c8)
  clear o4h'''
  have o6_0h'' := Lib.hid (own_kept o6_0h'.out c8)
  clear o6_0h'
  have t8 : Below w.heap.size w w8 := also t7 c8
  go_wp2_with fail
  all_goals go_ret
  all_goals exact ⟨rfl, t8⟩

end Go.Proofs.Ytanedebkpcpknaa
