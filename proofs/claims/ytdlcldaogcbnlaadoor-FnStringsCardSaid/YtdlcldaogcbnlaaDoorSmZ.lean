/- A new row of equal cells, in a region that writes several blocks; bytes as a text. No program is named here. -/
import Derived.Test.YtdlcldaogcbnlaaDoorSm
import Derived.Test.YtdlcldaogcbnlaaDoorTxt
namespace Go.Proofs.YtdlcldaogcbnlaaDoor
open Go.RowKit
set_option linter.unusedVariables false

namespace M
section
variable {P : Program} {ops : Array Oper} {Q : Exit → Act → World → Prop} {W : World} {row : List (Option Nat)} {S : World → Prop}
theorem smZ {i : Nat} {π : Sch} {l : List Value} {w : World} {o : Oper} {d : Tmp} {t e : TypeId} {x y : Operand} {n : Nat} (z : Value) (base : Nat) (hS : SM W row w) (hi : ops[i]? = some o) (hw : Region.wanted o (yielded ops l.toArray) = true) (hd : o.dst = some d)
    (ho : o.op = .makeSlice t x y) (hx : (Act.mk l.toArray []).eval x = .int .i64 (n : Int)) (hy : (Act.mk l.toArray []).eval y = .int .i64 (n : Int)) (hT : elT P t e 1 = true) (hz : ∃ i0, P.info? e = some i0 ∧ i0.zero = some z) (hz1 : z.cells = #[z]) (hn : n ≤ 1048576) (hb : base ≤ w.heap.size)
    (h : ∀ b w', w.heap.size = b → Below w.heap.size w w' → w'.ownsRow base e 1 (.slice (some ⟨b, 0, none⟩) n n) n (List.replicate n z) → SM W row w' → Ws P ops Q (SM W row) π (l.set d (.slice (some ⟨b, 0, none⟩) n n)) w') :
    Ws P ops Q (SM W row) (.cons (i, true) π) l w := by
  obtain ⟨hu, i0, z0, by_, h1i, h2i, h3i, h4i, h5i, h6i, h7i⟩ := elT_of hT
  obtain ⟨i1, hy1, hy2⟩ := hz
  obtain rfl : i1 = i0 := Option.some.inj (hy1.symm.trans h1i)
  obtain rfl : z0 = z := Option.some.inj (h2i.symm.trans hy2)
  have hby : i1.bytes * n ≤ 281474976710656 := by rw [h4i]; exact Nat.le_trans (Nat.mul_le_mul h7i hn) (by decide)
  obtain ⟨w', hrun, ho', hg⟩ := run_makeSlice_full (P := P) (w := w) base t e i1 z0 1 hu h1i h2i h3i .i64 .i64 n (by omega) hby (by unfold maxLen; omega) hb
  rw [Nat.mul_one, hz1, toList_madeCells_one] at ho'
  have hb' : Below w.heap.size w w' := (Below.refl _ _).grown hg (Nat.le_refl _) (by simp)
  have hr : (execOp (Act.mk l.toArray []).eval o).run P w = .ok (.value (.slice (some ⟨w.heap.size, 0, none⟩) n n)) w' := by
    simp [execOp, ho, hx, hy, hrun, Result.andThen]
  exact ⟨sl hi hw hd hr (hS.of_below hb') (h _ w' rfl hb' ho' (hS.of_below hb')).out⟩
end
end M
/-- A text of so many bytes 0. -/
def zerosB (n : Nat) : ByteArray := ⟨(List.replicate n (0 : UInt8)).toArray⟩
theorem zerosB_size (n : Nat) : (zerosB n).size = n := by simp [zerosB, ByteArray.size]
section
variable {P : Program} {S : World → Prop} {o : Oper} {a : Act}
theorem r_bytes0 {src dst : TypeId} {y : Operand} {b n c base : Nat} {e : TypeId} {w0 : World} (ho : o.op = .convert src dst y) (hx : a.eval y = .slice (some ⟨b, 0, none⟩) n c) (hs : bytesB P src = true) (hd : P.underlying dst = some .string)
    (hb : w0.ownsRow base e 1 (.slice (some ⟨b, 0, none⟩) n c) n (List.replicate n (.int .u8 0))) : ∀ w, w = w0 → (execOp a.eval o).run P w = .ok (.value (.string (zerosB n))) w := fun w he => by
  subst he
  obtain ⟨el, h1, h2⟩ := bytesB_of hs
  have h := run_convert_bytes_back (P := P) w src dst el ⟨b, 0, none⟩ c (List.replicate n (0 : UInt8)) h1 h2 hd (fun j hj => by
    rw [List.length_replicate] at hj
    have h3 := hb.cellAt j (by omega)
    rw [List.getElem?_replicate, if_pos hj] at h3
    rw [List.getElem_replicate]
    rw [Addr.add_lit, Nat.zero_add]
    simpa using h3)
  rw [List.length_replicate] at h
  simp [execOp, ho, hx, h, zerosB]
end

end Go.Proofs.YtdlcldaogcbnlaaDoor
