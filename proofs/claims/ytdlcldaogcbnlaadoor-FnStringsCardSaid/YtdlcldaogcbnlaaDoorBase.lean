/- Words and small laws that the texts of this seat share: bytes of a string one by one, numbers in slots. No program is named here. -/
import Derived.WalkKit
import Derived.WalkLawsBesides
import Derived.Below
import Derived.Lib.Hide
namespace Go.Proofs.YtdlcldaogcbnlaaDoor
open Go.RowKit
set_option linter.unusedVariables false

theorem ret_int {k : IntKind} {a b : Int} (h : a = b) : Ending.returned (.int k a) = .returned (.int k b) := by rw [h]
theorem ret_bool {a b : Bool} (h : a = b) : Ending.returned (.bool a) = .returned (.bool b) := by rw [h]

/-- One byte more of a string's beginning. -/
theorem bytes_snoc (s : ByteArray) (k : Nat) (h : k < s.size) : s.data.toList.take (k + 1) = s.data.toList.take k ++ [s[k]] := by
  rw [List.take_succ_eq_append_getElem (by simpa using h)]; rfl
theorem bytes_all (s : ByteArray) : s.data.toList.take s.size = s.data.toList := List.take_of_length_le (by simp)

/-- New blocks alone: what was there stands. -/
theorem below_a1 (w : World) (o : Obj) : Below w.heap.size w (w.alloc o) := (Below.refl _ _).alloc (Nat.le_refl _) o
theorem below_a2 (w : World) (o1 o2 : Obj) : Below w.heap.size w ((w.alloc o1).alloc o2) := (below_a1 w o1).alloc (by simp) o2
theorem below_a3 (w : World) (o1 o2 o3 : Obj) : Below w.heap.size w (((w.alloc o1).alloc o2).alloc o3) := (below_a2 w o1 o2).alloc (by simp; omega) o3
theorem below_a4 (w : World) (o1 o2 o3 o4 : Obj) : Below w.heap.size w ((((w.alloc o1).alloc o2).alloc o3).alloc o4) := (below_a3 w o1 o2 o3).alloc (by simp; omega) o4
/-- What a later world keeps: each cell, and that it may be written. -/
theorem keeps {W w1 : World} (hb : Below W.heap.size W w1) : ∀ b o, b < W.heap.size → w1.cell? ⟨b, o, none⟩ = W.cell? ⟨b, o, none⟩ := fun b o h => hb.cell (p := ⟨b, o, none⟩) h
theorem keepsF {W w1 : World} (hb : Below W.heap.size W w1) : ∀ b o, b < W.heap.size → w1.frozen? ⟨b, o, none⟩ = W.frozen? ⟨b, o, none⟩ := fun b o h => hb.frozen (p := ⟨b, o, none⟩) h
/-- One call more, whose world keeps all that was there. -/
theorem also {W w1 w2 : World} (c : Below W.heap.size W w1) (b : Below w1.heap.size w1 w2) : Below W.heap.size W w2 := c.trans (b.mono c.size)
/-- Cells of an old world, read in a later one: for regions that draw their order. -/
theorem later {w0 w1 : World} {a : Addr} {u : Value} (h : Below w0.heap.size w0 w1) (c : w0.cell? a = some u) : w1.cell? a = some u := (h.cell (p := a) (World.block_lt_of_cell? w0 _ c)).trans c
theorem held1 {w0 w1 : World} {a : Addr} {u : Value} (c : w0.cell? a = some u) (h : Below w0.heap.size w0 w1) : w1.cell? a = some u ∧ Below w0.heap.size w0 w1 := ⟨later h c, h⟩
theorem held2 {w0 w1 : World} {a b : Addr} {u v : Value} (c : w0.cell? a = some u) (d : w0.cell? b = some v) (h : Below w0.heap.size w0 w1) : w1.cell? a = some u ∧ w1.cell? b = some v ∧ Below w0.heap.size w0 w1 := ⟨later h c, later h d, h⟩
theorem held3 {w0 w1 : World} {a b e : Addr} {u v x : Value} (c : w0.cell? a = some u) (d : w0.cell? b = some v) (f : w0.cell? e = some x) (h : Below w0.heap.size w0 w1) : w1.cell? a = some u ∧ w1.cell? b = some v ∧ w1.cell? e = some x ∧ Below w0.heap.size w0 w1 := ⟨later h c, later h d, later h f, h⟩
theorem held4 {w0 w1 : World} {a b e f : Addr} {u v x y : Value} (c : w0.cell? a = some u) (d : w0.cell? b = some v) (g : w0.cell? e = some x) (k : w0.cell? f = some y) (h : Below w0.heap.size w0 w1) : w1.cell? a = some u ∧ w1.cell? b = some v ∧ w1.cell? e = some x ∧ w1.cell? f = some y ∧ Below w0.heap.size w0 w1 := ⟨later h c, later h d, later h g, later h k, h⟩
theorem below_realloc {B : Nat} {w w4 : World} {x y : Obj} (h : Below B w (w4.alloc x)) (hB : B ≤ w4.heap.size) : Below B w (w4.alloc y) :=
  ⟨h.os, h.tape, h.output, by have := h.size; simp at this ⊢; omega, fun k hk => by rw [Below.heap_alloc w4 y k (by omega), ← Below.heap_alloc w4 x k (by omega)]; exact h.block k hk⟩
theorem below_step {B : Nat} {w w1 w2 : World} (h : Below B w w1) (h2 : Below w1.heap.size w1 w2) (hB : B ≤ w.heap.size) : Below B w w2 := h.trans (h2.mono (Nat.le_trans hB h.size))

end Go.Proofs.YtdlcldaogcbnlaaDoor
