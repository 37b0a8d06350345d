/- The walk of the law FnExactSplitString. -/
import Derived.Test.YtgpallafdmjbdaaSplit
import Derived.Test.YtgpallafdmjbdaaStrM
import Derived.Test.YtgpallafdmjbdaaRows
import Derived.Deep.RegionHeld3
namespace Go.Proofs.Ytgpallafdmjbdaa
open Go.RowKit
set_option linter.unusedVariables false

set_option maxRecDepth 100000 in
set_option maxHeartbeats 2000000 in
theorem w_FnExactSplitString (a0 : ByteArray) (k0 : a0.size ≤ maxLen) (a1 : ByteArray) (k1 : a1.size ≤ maxLen) (w : World) :
    Calls Try.prog 6 #[.string a0, .string a1] w fun e w' => e = .returned (.bool true) ∧ Below w.heap.size w w' := by
  by_cases e0 : a0.size ≤ 1048576
  rotate_left
  · go_enter Try.func6, Try.ntmps6
    go_wp2_with fail
    all_goals go_ret
    all_goals exact ⟨rfl, (Below.refl _ _)⟩
  by_cases e1 : a1.size ≤ 1048576
  rotate_left
  · go_enter Try.func6, Try.ntmps6
    go_wp2_with fail
    all_goals go_ret
    all_goals exact ⟨rfl, (Below.refl _ _)⟩
  have cs := fun  (W : World)  => SplitString_spec a0 a1 W   (by omega) (by omega)
  have ci := fun  (W : World)  => SplitString_impl a0 a1 W   (by omega) (by omega)
  have v0b := SplitString_len a0 a1
  generalize SplitString_v0 a0 a1 = v0 at cs ci v0b
  generalize hv0 : v0.length = v0n at cs ci v0b
  clear hv0
  generalize SplitString_v1 a0 a1 = v1 at cs ci v0b
  have Cs := Lib.hid cs
  have Ci := Lib.hid ci
  clear cs ci
  go_enter Try.func6, Try.ntmps6
  go_wp2_with fail
  refine (Cs.out  _ ).mono ?_
  rintro e w1 ⟨A1_0, d1_0, rfl, o1_0, b1⟩
  have c1 : Below w.heap.size w w1 := b1
  have s1 := c1.size
  have t1 : Below w.heap.size w w1 := c1
  have o1_0b := own_base (base' := w.heap.size) o1_0 (by simp <;> omega)
  have o1_0l := Lib.hid (fun j h => World.ownsRow.lt o1_0b j h)
  have o1_0h := Lib.hid o1_0b
  clear o1_0 o1_0b
  go_wp2_with fail
  refine (Ci.out  _ ).mono ?_
  rintro e w2 ⟨A2_0, d2_0, rfl, o2_0, b2⟩
  have c2 : Below w1.heap.size w1 w2 := b2
  have s2 := c2.size
  have o1_0h' := Lib.hid (own_kept o1_0h.out c2)
  clear o1_0h
  have t2 : Below w.heap.size w w2 := also t1 c2
  have o2_0b := own_base (base' := w1.heap.size) o2_0 (by simp <;> omega)
  have o2_0l := Lib.hid (fun j h => World.ownsRow.lt o2_0b j h)
  have o2_0h := Lib.hid o2_0b
  clear o2_0 o2_0b
  go_wp2_with fail
  refine (eqStringS_below A2_0 A1_0 v0n d2_0 d1_0 v0 _ (own_rd o2_0h.out) (own_rd o1_0h'.out) (by omega)).mono ?_
  rintro e w3 ⟨rfl, b3⟩
  have c3 : Below w2.heap.size w2 w3 := b3
  have s3 := c3.size
  have o1_0h'' := Lib.hid (own_kept o1_0h'.out c3)
  clear o1_0h'
  have o2_0h' := Lib.hid (own_kept o2_0h.out c3)
  clear o2_0h
  have t3 : Below w.heap.size w w3 := also t2 c3
  go_wp2_with fail
  refine (markStringS_any A2_0 v0n d2_0 _ _ v0 _ o2_0h'.out (by omega) (by omega) (by omega)).mono ?_
  rintro e w4 ⟨rfl, o4, g4⟩
  have t4 : Below w.heap.size w w4 := Below.grown t3 g4 (by have := t3.size; simp; omega) (fun j h => by have h2 := o2_0l.out j h; omega)
  have z4 : w3.heap.size ≤ w4.heap.size := by have := g4.size; (try simp at this); omega
  have o1_0h''' := Lib.hid (own_grown o1_0h''.out g4 (fun j h1 h2 => by have q1 := o1_0l.out j h1; have q2 := o2_0l.out j h2; omega))
  clear o1_0h''
  have o4h := Lib.hid o4
  clear o4 g4 o2_0h'
  go_wp2_with fail
  refine (heldStringS_below A2_0 v0n d2_0 _ _ (own_rd o4h.out) (by omega) (by omega) (by omega)).mono ?_
  rintro e w5 ⟨rfl, b5⟩
  have c5 : Below w4.heap.size w4 w5 := b5
  have s5 := c5.size
  have o1_0h'''' := Lib.hid (own_kept o1_0h'''.out c5)
  clear o1_0h'''
  have o4h' := Lib.hid (own_kept o4h.out c5)
  clear o4h
  have t5 : Below w.heap.size w w5 := also t4 c5
  go_wp2_with fail
  refine (Ci.out  _ ).mono ?_
  rintro e w6 ⟨A6_0, d6_0, rfl, o6_0, b6⟩
  have c6 : Below w5.heap.size w5 w6 := b6
  have s6 := c6.size
  have o1_0h''''' := Lib.hid (own_kept o1_0h''''.out c6)
  clear o1_0h''''
  have o4h'' := Lib.hid (own_kept o4h'.out c6)
  clear o4h'
  have t6 : Below w.heap.size w w6 := also t5 c6
  have o6_0b := own_base (base' := w5.heap.size) o6_0 (by simp <;> omega)
  have o6_0l := Lib.hid (fun j h => World.ownsRow.lt o6_0b j h)
  have o6_0h := Lib.hid o6_0b
  clear o6_0 o6_0b
  go_wp2_with fail
  refine (eqStringS_below A6_0 A1_0 v0n d6_0 d1_0 v0 _ (own_rd o6_0h.out) (own_rd o1_0h'''''.out) (by omega)).mono ?_
  rintro e w7 ⟨rfl, b7⟩
  have c7 : Below w6.heap.size w6 w7 := b7
  have s7 := c7.size
  have o1_0h'''''' := Lib.hid (own_kept o1_0h'''''.out c7)
  clear o1_0h'''''
  have o4h''' := Lib.hid (own_kept o4h''.out c7)
  clear o4h''
  have o6_0h' := Lib.hid (own_kept o6_0h.out c7)
  clear o6_0h
  have t7 : Below w.heap.size w w7 := also t6 c7
  go_wp2_with fail
  refine (heldStringS_below A2_0 v0n d2_0 _ _ (own_rd o4h'''.out) (by omega) (by omega) (by omega)).mono ?_
  rintro e w8 ⟨rfl, b8⟩
  have c8 : Below w7.heap.size w7 w8 := b8
  have s8 := c8.size
  have o1_0h''''''' := Lib.hid (own_kept o1_0h''''''.out c8)
  clear o1_0h''''''
  have o4h'''' := Lib.hid (own_kept o4h'''.out c8)
  clear o4h'''
  have o6_0h'' := Lib.hid (own_kept o6_0h'.out c8)
  clear o6_0h'
  have t8 : Below w.heap.size w w8 := also t7 c8
  go_wp2_with fail
  all_goals go_ret
  all_goals exact ⟨rfl, t8⟩

end Go.Proofs.Ytgpallafdmjbdaa
