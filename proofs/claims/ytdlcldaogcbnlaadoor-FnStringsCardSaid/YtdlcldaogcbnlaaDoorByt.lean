/- A text as a new row of bytes, one of them turned, and the row as a text again. No program is named here. -/
import Derived.Test.YtdlcldaogcbnlaaDoorSmZ
import Derived.Test.YtdlcldaogcbnlaaDoorFr2
import Derived.Lib.ConvBytes
import Derived.Lib.AtoiErrMem
import Derived.Laws.BitsAllLaws
namespace Go.Proofs.YtdlcldaogcbnlaaDoor
open Go.RowKit
set_option linter.unusedVariables false

/-- A row's first cells are these bytes. -/
def Byc (cs : Array Value) (l : List UInt8) : Prop := ∀ (j : Nat) (x : UInt8), l[j]? = some x → cs[j]? = some (.int .u8 ((x.toNat : Nat) : Int))
theorem byc_size {cs : Array Value} {l : List UInt8} (h : Byc cs l) {j : Nat} {x : UInt8} (hx : l[j]? = some x) : j < cs.size := (Array.getElem?_eq_some_iff.1 (h j x hx)).1
theorem byc_cell {w : World} {b : Nat} {cs : Array Value} {e : TypeId} {f : Nat × Nat} {l : List UInt8} {j : Nat} {x : UInt8} (h : w.heap[b]? = some (.cells cs e f)) (hc : Byc cs l) (hx : l[j]? = some x) : w.cell? ⟨b, j, none⟩ = some (.int .u8 ((x.toNat : Nat) : Int)) := by
  rw [cell_of_row w b j cs e f h]; exact hc j x hx
theorem byc_new (w : World) (e : TypeId) (s : ByteArray) : Byc (Lib.bytesCells w e s) s.data.toList := fun j x hx => by
  unfold Lib.bytesCells
  have hx' : s.data[j]? = some x := by rw [← Array.getElem?_toList]; exact hx
  have hlt : j < s.data.size := (Array.getElem?_eq_some_iff.1 hx').1
  rw [Array.getElem?_append_left (by simpa using hlt), Array.getElem?_map, hx']
  rfl
theorem byc_set {cs : Array Value} {l : List UInt8} (h : Byc cs l) (k : Nat) (b : UInt8) (hk : k < cs.size) : Byc (cs.setIfInBounds k (.int .u8 ((b.toNat : Nat) : Int))) (l.set k b) := fun j x hx => by
  rw [List.getElem?_set] at hx
  rw [Array.getElem?_setIfInBounds]
  by_cases e : k = j
  · subst e
    rw [if_pos rfl] at hx ⊢
    rw [if_pos hk]
    split at hx
    · cases hx; rfl
    · cases hx
  · rw [if_neg e] at hx ⊢
    exact h j x hx
section
variable {P : Program} {ops : Array Oper} {Q : Exit → Act → World → Prop} {W : World} {row : Option Nat} {S : World → Prop}
theorem W.cvb {i : Nat} {π : Sch} {l : List Value} {w : World} {o : Oper} {d : Tmp} {src dst : TypeId} {y : Operand} {s : ByteArray} (hS : SG W row w) (hi : ops[i]? = some o) (hw : Region.wanted o (yielded ops l.toArray) = true) (hd : o.dst = some d)
    (ho : o.op = .convert src dst y) (hx : (Act.mk l.toArray []).eval y = .string s) (hs : P.underlying src = some .string) (ht : bytesB P dst = true)
    (h : ∀ b w' cap cs e f, w.heap.size = b → Below w.heap.size w w' → w'.heap[b]? = some (.cells cs e f) → Byc cs s.data.toList → cs.size ≤ f.1 → SG W row w' → Ws P ops Q (SG W row) π (l.set d (.slice (some ⟨b, 0, none⟩) s.size cap)) w') : Ws P ops Q (SG W row) (.cons (i, true) π) l w := by
  obtain ⟨e, h1, h2⟩ := bytesB_of ht
  have hr : (execOp (Act.mk l.toArray []).eval o).run P w = .ok (.value (.slice (some ⟨w.heap.size, 0, none⟩) s.size (grownCap w s.size 0 e))) (Lib.bytesWorld w e s) := by
    simp [execOp, ho, hx, Lib.run_convert_string_bytes w src dst e s hs h1 h2]
  have hb := Lib.bytesWorld_below w e s
  exact ⟨sl hi hw hd hr (hS.of_below hb) (h _ _ _ _ e _ rfl hb (Lib.bytesWorld_at_new w e s) (byc_new w e s) (Nat.le_refl _) (hS.of_below hb)).out⟩
/-- A byte is stored. -/
theorem W.ssb {i : Nat} {π : Sch} {l : List Value} {w : World} {o : Oper} {ty e : TypeId} {x y : Operand} {b j : Nat} {z : Int} {cs : Array Value} {f : Nat × Nat} (hS : SG W row w) (hi : ops[i]? = some o) (hw : Region.wanted o (yielded ops l.toArray) = true) (hd : o.dst = none)
    (ho : o.op = .store ty x y) (hx : (Act.mk l.toArray []).eval x = .pointer (some ⟨b, j, none⟩)) (hy : (Act.mk l.toArray []).eval y = .int .u8 z) (hxb : w.heap[b]? = some (.cells cs e f)) (hf : cs.size ≤ f.1) (hj : j < cs.size) (hs : sizeB P ty = some 1)
    (hrow : some b = row ∨ W.heap.size ≤ b)
    (h : ∀ w', w.grownBy w' (some b) → w'.heap[b]? = some (.cells (cs.setIfInBounds j (.int .u8 z)) e f) → SG W row w' → Ws P ops Q (SG W row) π l w') : Ws P ops Q (SG W row) (.cons (i, true) π) l w := by
  have hcell : w.cell? ⟨b, j, none⟩ = some cs[j] := by rw [cell_of_row w b j cs e f hxb]; simp [hj]
  have hfro : w.frozen? ⟨b, j, none⟩ = false := by
    obtain ⟨lo, hi'⟩ := f
    simp only [World.frozen?, hxb, Bool.and_eq_false_iff, decide_eq_false_iff_not]
    left
    simp only at hf
    omega
  have hst := run_storeCells_cells (P := P) b j [.int .u8 z] 0 w (fun q hq => by
      obtain rfl : q = 0 := by simpa using hq
      simp [hcell]) (fun q hq => by
      obtain rfl : q = 0 := by simpa using hq
      simpa using hfro) (fun v hv => by
      obtain rfl : v = .int .u8 z := by simpa using hv
      rfl)
  simp only [Nat.add_zero, World.setCells] at hst
  have hset := setCell_eq_setRow w b j cs e f (.int .u8 z) hxb
  rw [hset] at hst
  have hv : (Value.int .u8 z).cells.toList = [Value.int .u8 z] := rfl
  have hr : (execOp (Act.mk l.toArray []).eval o).run P w = .ok .skip (w.setRow b (cs.setIfInBounds j (.int .u8 z))) := by
    have hsz : (Value.int .u8 z).cells.size = 1 := rfl
    simp [execOp, ho, hx, hy, Instr.storeAt, Instr.sureAddr, storeVar, run_sizeOf hs, hsz, hv, hst]
  have hg : w.grownBy (w.setRow b (cs.setIfInBounds j (.int .u8 z))) (some b) := ⟨rfl, rfl, rfl, by simp [World.setRow], fun k _ hk => setRow_other w b k _ (fun e => hk (by rw [e]))⟩
  have hS' : SG W row (w.setRow b (cs.setIfInBounds j (.int .u8 z))) := hS.of_grown hg (by
    rcases hrow with h | h
    · exact .inl h
    · exact .inr (fun k e => by cases e; exact h))
  exact ⟨su hi hw hd hr hS' (h _ hg (setRow_heap w b cs _ e f hxb) hS').out⟩
end
section
variable {P : Program} {S : World → Prop} {o : Oper} {a : Act}
theorem r_bytesB {src dst : TypeId} {y : Operand} {b n c : Nat} {e : TypeId} {cs : Array Value} {f : Nat × Nat} {w0 : World} (l : List UInt8) (ho : o.op = .convert src dst y) (hx : a.eval y = .slice (some ⟨b, 0, none⟩) n c) (hs : bytesB P src = true) (hd : P.underlying dst = some .string)
    (hb : w0.heap[b]? = some (.cells cs e f)) (hc : Byc cs l) (hl : l.length = n) : ∀ w, w = w0 → (execOp a.eval o).run P w = .ok (.value (.string ⟨l.toArray⟩)) w := fun w he => by
  subst he
  subst hl
  obtain ⟨el, h1, h2⟩ := bytesB_of hs
  have h := run_convert_bytes_back (P := P) w src dst el ⟨b, 0, none⟩ c l h1 h2 hd (fun j hj => by
    rw [Addr.add_lit, Nat.zero_add]
    exact byc_cell hb hc (List.getElem?_eq_getElem hj))
  simp [execOp, ho, hx, h]
theorem r_xor8 {t u : TypeId} {x y : Operand} {m n : Int} (ho : o.op = .binOp .xor t x y u) (hx : a.eval x = .int .u8 m) (hy : a.eval y = .int .u8 n) (hm : 0 ≤ m ∧ m < 256) (hn : 0 ≤ n ∧ n < 256) :
    ∀ w, S w → (execOp a.eval o).run P w = .ok (.value (.int .u8 ((m.toNat ^^^ n.toNat : Nat) : Int))) w := fun w _ => by
  have hs : Op.intBits .xor .u8 m n = pure (.int .u8 ((m.toNat ^^^ n.toNat : Nat) : Int)) := by
    obtain ⟨A, rfl⟩ := Int.eq_ofNat_of_zero_le hm.1
    obtain ⟨B, rfl⟩ := Int.eq_ofNat_of_zero_le hn.1
    unfold Op.intBits
    have e1 : (BitVec.ofInt IntKind.u8.bits (A : Int) ^^^ BitVec.ofInt IntKind.u8.bits (B : Int)).toNat = A ^^^ B := by
      rw [BitVec.ofInt_natCast, BitVec.ofInt_natCast, BitVec.toNat_xor, BitVec.toNat_ofNat, BitVec.toNat_ofNat]
      show A % 2 ^ 8 ^^^ B % 2 ^ 8 = A ^^^ B
      rw [Nat.mod_eq_of_lt (by omega : A < 2 ^ 8), Nat.mod_eq_of_lt (by omega : B < 2 ^ 8)]
    have hx : A ^^^ B < 2 ^ 8 := Nat.xor_lt_two_pow (by omega) (by omega)
    simp only [e1]
    rw [show IntKind.u8.wrap ((A ^^^ B : Nat) : Int) = ((A ^^^ B : Nat) : Int) by rw [IntKind.wrap_u8']; omega]
    rfl
  simp [execOp, ho, hx, hy, eqGuard, binOp, hs]
end
/-- What the law turns a byte into, and that it is another one. -/
theorem xor_byte {a : UInt8} {m : Int} (hm : 1 ≤ m ∧ m < 256) : ∃ b : UInt8, ((((a.toNat : Nat) : Int).toNat ^^^ m.toNat : Nat) : Int) = ((b.toNat : Nat) : Int) ∧ b.toNat ≠ a.toNat := by
  have hA := UInt8.toNat_lt a
  have hx : a.toNat ^^^ m.toNat < 2 ^ 8 := Nat.xor_lt_two_pow hA (by omega)
  refine ⟨UInt8.ofNat (a.toNat ^^^ m.toNat), ?_, ?_⟩
  · rw [Int.toNat_natCast, UInt8.toNat_ofNat_of_lt' hx]
  · rw [UInt8.toNat_ofNat_of_lt' hx]
    intro e
    have h1 : a.toNat ^^^ (a.toNat ^^^ m.toNat) = a.toNat ^^^ a.toNat := by rw [e]
    rw [← Nat.xor_assoc, Nat.xor_self, Nat.zero_xor] at h1
    omega

end Go.Proofs.YtdlcldaogcbnlaaDoor
