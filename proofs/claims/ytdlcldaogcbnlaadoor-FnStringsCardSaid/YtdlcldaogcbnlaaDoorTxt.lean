/- Texts: what single operations on them yield. No program is named here. -/
import Derived.Test.YtdlcldaogcbnlaaDoorSch8
import Derived.Lib.SmallJoins
import Derived.Laws.IdiomStrings
namespace Go.Proofs.YtdlcldaogcbnlaaDoor
open Go.RowKit
set_option linter.unusedVariables false
set_option linter.unusedSimpArgs false

/-- A text's byte at a place, as a number. -/
def bAt (s : ByteArray) (k : Nat) : Nat := (s.data.toList.getD k 0).toNat
theorem bAt_lt (s : ByteArray) (k : Nat) : bAt s k < 256 := UInt8.toNat_lt _
theorem bAt_get {s : ByteArray} {k : Nat} (h : k < s.size) : bAt s k = (s[k]).toNat := by
  unfold bAt
  rw [List.getD_eq_getElem?_getD, List.getElem?_eq_getElem (by simpa using h)]; rfl
section
variable {P : Program} {S : World → Prop} {o : Oper} {a : Act}
theorem r_lenS {x : Operand} {t : TypeId} {s : ByteArray} (ho : o.op = .call { callee := .builtin .len, args := #[x], argTypes := #[t] }) (hx : a.eval x = .string s) (ht : P.underlying t = some .string) :
    ∀ w, S w → (execOp a.eval o).run P w = .ok (.value (.int .i64 ((s.size : Nat) : Int))) w := fun w _ => by
  simp [execOp, ho, hx, resolve, invoke, builtin, Builtin.len_, underlying, ht, goInt]
theorem r_indexS {t : TypeId} {x i : Operand} {s : ByteArray} {k : Nat} (ho : o.op = .index t x i) (hx : a.eval x = .string s) (hi : a.eval i = .int .i64 (k : Int)) (ht : P.underlying t = some .string) (hk : k < s.size) :
    ∀ w, S w → (execOp a.eval o).run P w = .ok (.value (.int .u8 ((bAt s k : Nat) : Int))) w := fun w _ => by
  rw [bAt_get hk]
  have h0 : (0 : Int) ≤ (k : Int) := by omega
  simp [execOp, ho, hx, hi, Instr.index, asIntOf, underlying, ht, h0, getElem?_pos s k hk]
theorem r_cutS {t : TypeId} {x y z : Operand} {s : ByteArray} {l h : Nat} (ho : o.op = .slice t x (some y) (some z) none) (hx : a.eval x = .string s) (hy : a.eval y = .int .i64 (l : Int)) (hz : a.eval z = .int .i64 (h : Int)) (ht : P.underlying t = some .string) (hl : l ≤ h) (hh : h ≤ s.size) :
    ∀ w, S w → (execOp a.eval o).run P w = .ok (.value (.string (s.extract l h))) w := fun w _ => by
  have h0 : (0 : Int) ≤ (l : Int) ∧ (l : Int) ≤ (h : Int) := by omega
  have h1 : (0 : Int) ≤ (h : Int) ∧ (h : Int) ≤ (s.size : Int) := by omega
  simp [execOp, ho, hx, hy, hz, Instr.sliceAt, Instr.slice, Instr.sliceBounds, Instr.sliceBound, asIntOf, underlying, ht, hh, hl]
theorem r_fromS {t : TypeId} {x y : Operand} {s : ByteArray} {l : Nat} (ho : o.op = .slice t x (some y) none none) (hx : a.eval x = .string s) (hy : a.eval y = .int .i64 (l : Int)) (ht : P.underlying t = some .string) (hl : l ≤ s.size) :
    ∀ w, S w → (execOp a.eval o).run P w = .ok (.value (.string (s.extract l s.size))) w := fun w _ => by
  simp [execOp, ho, hx, hy, Instr.sliceAt, Instr.slice, Instr.sliceBounds, Instr.sliceBound, asIntOf, underlying, ht, hl]
theorem r_toS {t : TypeId} {x z : Operand} {s : ByteArray} {h : Nat} (ho : o.op = .slice t x none (some z) none) (hx : a.eval x = .string s) (hz : a.eval z = .int .i64 (h : Int)) (ht : P.underlying t = some .string) (hh : h ≤ s.size) :
    ∀ w, S w → (execOp a.eval o).run P w = .ok (.value (.string (s.extract 0 h))) w := fun w _ => by
  simp [execOp, ho, hx, hz, Instr.sliceAt, Instr.slice, Instr.sliceBounds, Instr.sliceBound, asIntOf, underlying, ht, hh]
theorem r_addS {t u : TypeId} {x y : Operand} {s r : ByteArray} (ho : o.op = .binOp .add t x y u) (hx : a.eval x = .string s) (hy : a.eval y = .string r) (hl : s.size + r.size ≤ 9223372036854775807) :
    ∀ w, S w → (execOp a.eval o).run P w = .ok (.value (.string (s ++ r))) w := fun w _ => by
  have h0 : ¬ (((s.size + r.size : Nat) : Int) > IntKind.i64.max) := by
    show ¬ (((s.size + r.size : Nat) : Int) > 9223372036854775807); omega
  simp only [execOp, ho, hx, hy, eqGuard, binOp, Op.stringOp]
  simp [h0]
  omega
theorem toList_eq {s r : ByteArray} : (s.toList == r.toList) = decide (s = r) := by
  by_cases h : s = r
  · subst h; simp
  · rw [decide_eq_false h]
    refine beq_eq_false_iff_ne.2 (fun e => h ?_)
    rw [ByteArray.toList_eq, ByteArray.toList_eq] at e
    exact ByteArray.ext (Array.toList_inj.1 e)
theorem r_eqlS {t u : TypeId} {x y : Operand} {s r : ByteArray} {b : Bool} (ho : o.op = .binOp .eql t x y u) (hx : a.eval x = .string s) (hy : a.eval y = .string r) (hb : decide (s = r) = b) :
    ∀ w, S w → (execOp a.eval o).run P w = .ok (.value (.bool b)) w := fun w _ => by
  subst hb
  rw [← toList_eq]
  simp [execOp, ho, hx, hy, eqGuard, binOp, Op.stringOp]
theorem r_neqS {t u : TypeId} {x y : Operand} {s r : ByteArray} {b : Bool} (ho : o.op = .binOp .neq t x y u) (hx : a.eval x = .string s) (hy : a.eval y = .string r) (hb : (!decide (s = r)) = b) :
    ∀ w, S w → (execOp a.eval o).run P w = .ok (.value (.bool b)) w := fun w _ => by
  subst hb
  rw [← toList_eq]
  simp [execOp, ho, hx, hy, eqGuard, binOp, Op.stringOp]
theorem r_conv {src dst : TypeId} {x : Operand} {k k' : IntKind} {n m : Int} (ho : o.op = .convert src dst x) (hx : a.eval x = .int k n) (hs : P.underlying src = some (.int k)) (hd : P.underlying dst = some (.int k')) (hw : k'.wrap n = m) :
    ∀ w, S w → (execOp a.eval o).run P w = .ok (.value (.int k' m)) w := fun w _ => by
  subst hw
  simp [execOp, ho, hx, convert, underlying, hs, hd, Conv.intToInt]
/-- Are these the types of bytes and of a text? -/
def bytesB (P : Program) (t : TypeId) : Bool := match P.underlying t with
  | some (.slice e) => match P.underlying e with
    | some (.int .u8) => true
    | _ => false
  | _ => false
theorem bytesB_of {t : TypeId} (h : bytesB P t = true) : ∃ e, P.underlying t = some (.slice e) ∧ P.underlying e = some (.int .u8) := by
  unfold bytesB at h
  split at h <;> try cases h
  rename_i e he
  split at h <;> try cases h
  rename_i h8
  exact ⟨e, he, h8⟩
theorem r_bytes1 {src dst : TypeId} {y : Operand} {b c : Nat} {x : UInt8} {t : TypeId} {w0 : World} (ho : o.op = .convert src dst y) (hx : a.eval y = .slice (some ⟨b, 0, none⟩) 1 c) (hs : bytesB P src = true) (hd : P.underlying dst = some .string)
    (hb : w0.heap[b]? = some (.cells #[.int .u8 ((x.toNat : Nat) : Int)] t (0, 0))) : ∀ w, w = w0 → (execOp a.eval o).run P w = .ok (.value (.string ⟨#[x]⟩)) w := fun w e => by
  subst e
  obtain ⟨el, h1, h2⟩ := bytesB_of hs
  have h := run_convert_bytes_back (P := P) w src dst el ⟨b, 0, none⟩ c [x] h1 h2 hd (fun j hj => by
    obtain rfl : j = 0 := by simpa using hj
    exact blk_cell hb rfl)
  simp only [List.length_singleton] at h
  simp [execOp, ho, hx, h]
theorem size1 (x : UInt8) : (⟨#[x]⟩ : ByteArray).size = 1 := rfl
theorem wrap_i64 {n : Int} (h0 : -9223372036854775808 ≤ n) (h1 : n ≤ 9223372036854775807) : IntKind.i64.wrap n = n := IntWalk.i64_in _ (by omega)
section
variable {k : IntKind}
theorem r_eqlK {t u : TypeId} {x y : Operand} {m n : Int} {r : Bool} (ho : o.op = .binOp .eql t x y u) (hx : a.eval x = .int k m) (hy : a.eval y = .int k n) (hr : decide (m = n) = r) :
    ∀ w, S w → (execOp a.eval o).run P w = .ok (.value (.bool r)) w := fun w _ => by
  subst hr
  simp [execOp, ho, hx, hy, eqGuard, binOp, Op.intCmp]
  by_cases h : m = n <;> simp [h]
theorem r_neqK {t u : TypeId} {x y : Operand} {m n : Int} {r : Bool} (ho : o.op = .binOp .neq t x y u) (hx : a.eval x = .int k m) (hy : a.eval y = .int k n) (hr : decide (m ≠ n) = r) :
    ∀ w, S w → (execOp a.eval o).run P w = .ok (.value (.bool r)) w := fun w _ => by
  subst hr
  simp [execOp, ho, hx, hy, eqGuard, binOp, Op.intCmp, bne]
  by_cases h : m = n <;> simp [h]
theorem r_lssK {t u : TypeId} {x y : Operand} {m n : Int} {r : Bool} (ho : o.op = .binOp .lss t x y u) (hx : a.eval x = .int k m) (hy : a.eval y = .int k n) (hr : decide (m < n) = r) :
    ∀ w, S w → (execOp a.eval o).run P w = .ok (.value (.bool r)) w := fun w _ => by
  subst hr
  simp [execOp, ho, hx, hy, eqGuard, binOp, Op.intCmp]
theorem r_gtrK {t u : TypeId} {x y : Operand} {m n : Int} {r : Bool} (ho : o.op = .binOp .gtr t x y u) (hx : a.eval x = .int k m) (hy : a.eval y = .int k n) (hr : decide (m > n) = r) :
    ∀ w, S w → (execOp a.eval o).run P w = .ok (.value (.bool r)) w := fun w _ => by
  subst hr
  simp [execOp, ho, hx, hy, eqGuard, binOp, Op.intCmp]
theorem r_leqK {t u : TypeId} {x y : Operand} {m n : Int} {r : Bool} (ho : o.op = .binOp .leq t x y u) (hx : a.eval x = .int k m) (hy : a.eval y = .int k n) (hr : decide (m ≤ n) = r) :
    ∀ w, S w → (execOp a.eval o).run P w = .ok (.value (.bool r)) w := fun w _ => by
  subst hr
  simp [execOp, ho, hx, hy, eqGuard, binOp, Op.intCmp]
theorem r_geqK {t u : TypeId} {x y : Operand} {m n : Int} {r : Bool} (ho : o.op = .binOp .geq t x y u) (hx : a.eval x = .int k m) (hy : a.eval y = .int k n) (hr : decide (m ≥ n) = r) :
    ∀ w, S w → (execOp a.eval o).run P w = .ok (.value (.bool r)) w := fun w _ => by
  subst hr
  simp [execOp, ho, hx, hy, eqGuard, binOp, Op.intCmp]
theorem r_addK {t u : TypeId} {x y : Operand} {m n z : Int} (ho : o.op = .binOp .add t x y u) (hx : a.eval x = .int k m) (hy : a.eval y = .int k n) (hz : k.wrap (m + n) = z) :
    ∀ w, S w → (execOp a.eval o).run P w = .ok (.value (.int k z)) w := fun w _ => by
  subst hz
  simp [execOp, ho, hx, hy, eqGuard, binOp, Op.intArith]
theorem r_subK {t u : TypeId} {x y : Operand} {m n z : Int} (ho : o.op = .binOp .sub t x y u) (hx : a.eval x = .int k m) (hy : a.eval y = .int k n) (hz : k.wrap (m - n) = z) :
    ∀ w, S w → (execOp a.eval o).run P w = .ok (.value (.int k z)) w := fun w _ => by
  subst hz
  simp [execOp, ho, hx, hy, eqGuard, binOp, Op.intArith]
theorem r_mulK {t u : TypeId} {x y : Operand} {m n z : Int} (ho : o.op = .binOp .mul t x y u) (hx : a.eval x = .int k m) (hy : a.eval y = .int k n) (hz : k.wrap (m * n) = z) :
    ∀ w, S w → (execOp a.eval o).run P w = .ok (.value (.int k z)) w := fun w _ => by
  subst hz
  simp [execOp, ho, hx, hy, eqGuard, binOp, Op.intArith]
theorem r_quoK {t u : TypeId} {x y : Operand} {m n z : Int} (ho : o.op = .binOp .quo t x y u) (hx : a.eval x = .int k m) (hy : a.eval y = .int k n) (hn : n ≠ 0) (hz : k.wrap (m.tdiv n) = z) :
    ∀ w, S w → (execOp a.eval o).run P w = .ok (.value (.int k z)) w := fun w _ => by
  subst hz
  simp [execOp, ho, hx, hy, eqGuard, binOp, Op.intDiv, hn]
theorem r_remK {t u : TypeId} {x y : Operand} {m n z : Int} (ho : o.op = .binOp .rem t x y u) (hx : a.eval x = .int k m) (hy : a.eval y = .int k n) (hn : n ≠ 0) (hz : m.tmod n = z) :
    ∀ w, S w → (execOp a.eval o).run P w = .ok (.value (.int k z)) w := fun w _ => by
  subst hz
  simp [execOp, ho, hx, hy, eqGuard, binOp, Op.intDiv, hn]
theorem r_neg {t : TypeId} {x : Operand} {m z : Int} (ho : o.op = .unOp .neg t x) (hx : a.eval x = .int k m) (hz : k.wrap (-m) = z) : ∀ w, S w → (execOp a.eval o).run P w = .ok (.value (.int k z)) w := fun w _ => by
  subst hz
  simp [execOp, ho, hx, Op.unary, Op.intArith]
end
end
/-! ### rows of texts -/
theorem strs_one (zs : List ByteArray) : ∀ u ∈ strsV zs, u.oneCell' = true := fun u hu => by
  unfold strsV at hu
  obtain ⟨x, _, rfl⟩ := List.mem_map.1 hu; rfl
theorem strs_len (zs : List ByteArray) : (strsV zs).length = zs.length := by simp [strsV]
theorem rd_strs_len {w : World} {A : Option Addr} {n : Nat} {zs : List ByteArray} (h : Rd w 1 A n (strsV zs)) : zs.length = n := by
  have := h.1; rw [strs_len] at this; omega
theorem own_snocS {w : World} {base : Nat} {e : TypeId} {v : Value} {n : Nat} {zs : List ByteArray} {x : ByteArray} (h : w.ownsRow base e 1 v n (strsV zs ++ (#[Value.string x] : Array Value).toList)) : w.ownsRow base e 1 v n (strsV (zs ++ [x])) := by
  simpa [strsV] using h
theorem own_joinS {w : World} {base : Nat} {e : TypeId} {v : Value} {n : Nat} {zs ys : List ByteArray} (h : w.ownsRow base e 1 v n (strsV zs ++ strsV ys)) : w.ownsRow base e 1 v n (strsV (zs ++ ys)) := by
  simpa [strsV] using h
theorem Rd.elStr {w : World} {A : Option Addr} {n k : Nat} {zs : List ByteArray} {x : ByteArray} (h : Rd w 1 A n (strsV zs)) (hx : zs[k]? = some x) : ∃ b off, A = some ⟨b, off, none⟩ ∧ b < w.heap.size ∧ w.cell? ⟨b, off + k, none⟩ = some (.string x) := by
  have hl := rd_strs_len h
  have hk := (List.getElem?_eq_some_iff.1 hx).1
  obtain ⟨b, off, e, hb, hc⟩ := h.2 (by omega)
  exact ⟨b, off, e, hb, hc k _ (by unfold strsV; rw [List.getElem?_map, hx]; rfl)⟩
theorem own_setS {w : World} {base : Nat} {e : TypeId} {v : Value} {n k : Nat} {zs : List ByteArray} {x : ByteArray} (h : w.ownsRow base e 1 v n ((strsV zs).set k (.string x))) : w.ownsRow base e 1 v n (strsV (zs.set k x)) := by
  have e9 : strsV (zs.set k x) = (strsV zs).set k (.string x) := by unfold strsV; rw [List.map_set]
  rw [e9]; exact h
theorem own_atS {w : World} {base : Nat} {e : TypeId} {g n c k : Nat} {zs : List ByteArray} {x : ByteArray} (h : w.ownsRow base e 1 (.slice (some ⟨g, 0, none⟩) n c) n (strsV zs)) (hx : zs[k]? = some x) : w.cell? ⟨g, k, none⟩ = some (.string x) := by
  have hl := own_len h
  rw [strs_len] at hl
  have hk := (List.getElem?_eq_some_iff.1 hx).1
  rw [h.cellAt k (by omega)]; unfold strsV; rw [List.getElem?_map, hx]; rfl
section
variable {P : Program} {ops : Array Oper} {Q : Exit → Act → World → Prop} {W : World} {row : Option Nat}
/-- make, of one-cell elements. -/
theorem W.smZ {i : Nat} {π : Sch} {l : List Value} {w : World} {o : Oper} {d : Tmp} {t e : TypeId} {x y : Operand} {n : Nat} (z : Value) (base : Nat) (hS : SG W row w) (hi : ops[i]? = some o) (hw : Region.wanted o (yielded ops l.toArray) = true) (hd : o.dst = some d)
    (ho : o.op = .makeSlice t x y) (hx : (Act.mk l.toArray []).eval x = .int .i64 (n : Int)) (hy : (Act.mk l.toArray []).eval y = .int .i64 (n : Int)) (hT : elT P t e 1 = true) (hz : ∃ i0, P.info? e = some i0 ∧ i0.zero = some z) (hz1 : z.cells = #[z]) (hn : n ≤ 1048576) (hb : base ≤ w.heap.size)
    (h : ∀ b w', w.heap.size = b → Below w.heap.size w w' → w'.ownsRow base e 1 (.slice (some ⟨b, 0, none⟩) n n) n (List.replicate n z) → SG W row w' → Ws P ops Q (SG W row) π (l.set d (.slice (some ⟨b, 0, none⟩) n n)) w') :
    Ws P ops Q (SG W row) (.cons (i, true) π) l w := by
  obtain ⟨hu, i0, z0, by_, h1i, h2i, h3i, h4i, h5i, h6i, h7i⟩ := elT_of hT
  obtain ⟨i1, hy1, hy2⟩ := hz
  obtain rfl : i1 = i0 := Option.some.inj (hy1.symm.trans h1i)
  obtain rfl : z0 = z := Option.some.inj (h2i.symm.trans hy2)
  have hby : i1.bytes * n ≤ 281474976710656 := by rw [h4i]; exact Nat.le_trans (Nat.mul_le_mul h7i hn) (by decide)
  obtain ⟨w', hrun, ho', hg⟩ := run_makeSlice_full (P := P) (w := w) base t e i1 z0 1 hu h1i h2i h3i .i64 .i64 n (by omega) hby (by unfold maxLen; omega) hb
  rw [Nat.mul_one, hz1, toList_madeCells_one] at ho'
  have hb' : Below w.heap.size w w' := (Below.refl _ _).grown hg (Nat.le_refl _) (by simp)
  have hr : (execOp (Act.mk l.toArray []).eval o).run P w = .ok (.value (.slice (some ⟨w.heap.size, 0, none⟩) n n)) w' := by
    simp [execOp, ho, hx, hy, hrun, Result.andThen]
  exact ⟨sl hi hw hd hr (hS.of_below hb') (h _ w' rfl hb' ho' (hS.of_below hb')).out⟩
end
theorem own_reps {w : World} {base : Nat} {e : TypeId} {v : Value} {n : Nat} {x : ByteArray} (h : w.ownsRow base e 1 v n (List.replicate n (.string x))) : w.ownsRow base e 1 v n (strsV (List.replicate n x)) := by
  simpa [strsV] using h
theorem fin_strs {w w' : World} {e : TypeId} {A : Option Addr} {n c : Nat} {zs vs : List ByteArray} {b vb : Bool} (how : w'.ownsRow w.heap.size e 1 (.slice A n c) n (strsV zs)) (hz : zs = vs) (hb : b = vb) (bel : Below w.heap.size w w') :
    ∃ A' d, Ending.returned (.tuple #[.slice A n c, .bool b]) = .returned (.tuple #[.slice A' vs.length d, .bool vb]) ∧ w'.ownsRow w.heap.size e 1 (.slice A' vs.length d) vs.length (strsV vs) ∧ Below w.heap.size w w' := by
  subst hz hb
  have hl := own_len how
  rw [strs_len] at hl
  subst hl
  exact ⟨_, _, rfl, how, bel⟩

end Go.Proofs.YtdlcldaogcbnlaaDoor
