/- Operations that act, met one by one: new blocks, stores, appends. No program is named here. -/
import Derived.Test.YtdlcldaogcbnlaaDoorSch
import Derived.Laws.CopyRow
namespace Go.Proofs.YtdlcldaogcbnlaaDoor
open Go.RowKit
set_option linter.unusedVariables false

section
variable {P : Program} {ops : Array Oper} {Q : Exit → Act → World → Prop} {W : World} {row : Option Nat} {S : World → Prop}
/-- One operation that acts and yields. -/
theorem sl {i : Nat} {π : Sch} {l : List Value} {w w' : World} {o : Oper} {d : Tmp} {v : Value} (hi : ops[i]? = some o) (hw : Region.wanted o (yielded ops l.toArray) = true) (hd : o.dst = some d)
    (hr : (execOp (Act.mk l.toArray []).eval o).run P w = .ok (.value v) w') (hS : S w') (h : wpSch P ops Q S π ⟨(l.set d v).toArray, []⟩ w') : wpSch P ops Q S (.cons (i, true) π) ⟨l.toArray, []⟩ w := by
  show wpOp P ops Q i _ _ w
  unfold wpOp
  simp only [hi, hw, if_true]
  left
  unfold Oper.wp
  rw [hr, Oper.upon_value]
  refine ⟨hS, ?_⟩
  rw [hd]; simpa [Act.put] using h
/-- One operation that acts and yields nothing. -/
theorem su {i : Nat} {π : Sch} {l : List Value} {w w' : World} {o : Oper} (hi : ops[i]? = some o) (hw : Region.wanted o (yielded ops l.toArray) = true) (hd : o.dst = none)
    (hr : (execOp (Act.mk l.toArray []).eval o).run P w = .ok .skip w') (hS : S w') (h : wpSch P ops Q S π ⟨l.toArray, []⟩ w') : wpSch P ops Q S (.cons (i, true) π) ⟨l.toArray, []⟩ w := by
  show wpOp P ops Q i _ _ w
  unfold wpOp
  simp only [hi, hw, if_true]
  left
  unfold Oper.wp
  rw [hr, Oper.upon_skip]
  refine ⟨hS, ?_⟩
  rw [hd]; exact h
/-- A new block. -/
theorem sn {i : Nat} {π : Sch} {l : List Value} {w : World} {o : Oper} {d : Tmp} (mk : Nat → Value) (cs : Array Value) (t : TypeId) (hS : SG W row w) (hi : ops[i]? = some o) (hw : Region.wanted o (yielded ops l.toArray) = true) (hd : o.dst = some d)
    (hr : ∀ w, (execOp (Act.mk l.toArray []).eval o).run P w = .ok (.value (mk w.heap.size)) (w.alloc (.cells cs t (0, 0))))
    (h : ∀ b w', w.heap.size = b → Below w.heap.size w w' → w'.heap[b]? = some (.cells cs t (0, 0)) → SG W row w' → wpSch P ops Q (SG W row) π ⟨(l.set d (mk b)).toArray, []⟩ w') : wpSch P ops Q (SG W row) (.cons (i, true) π) ⟨l.toArray, []⟩ w :=
  sl hi hw hd (hr w) (hS.of_below (below_a1 _ _)) (h _ _ rfl (below_a1 _ _) (heap_alloc_new w _) (hS.of_below (below_a1 _ _)))
/-- A store into a block that is known whole. -/
theorem ss {i : Nat} {π : Sch} {l : List Value} {w : World} {o : Oper} {ty t : TypeId} {x y : Operand} {b j : Nat} {v : Value} {news : List Value} {cs cs' : Array Value} (hS : SG W row w) (hi : ops[i]? = some o) (hw : Region.wanted o (yielded ops l.toArray) = true) (hd : o.dst = none)
    (ho : o.op = .store ty x y) (hx : (Act.mk l.toArray []).eval x = .pointer (some ⟨b, j, none⟩)) (hy : (Act.mk l.toArray []).eval y = v) (hxb : w.heap[b]? = some (.cells cs t (0, 0))) (hv : v.cells.toList = news) (hs : sizeB P ty = some news.length)
    (hf : j + news.length ≤ cs.size) (h1 : news.all (·.oneCell') = true) (hcs : (cs.toList.take j ++ news ++ cs.toList.drop (j + news.length)).toArray = cs') (hrow : some b = row ∨ W.heap.size ≤ b)
    (h : ∀ w', w.grownBy w' (some b) → w'.heap[b]? = some (.cells cs' t (0, 0)) → SG W row w' → wpSch P ops Q (SG W row) π ⟨l.toArray, []⟩ w') : wpSch P ops Q (SG W row) (.cons (i, true) π) ⟨l.toArray, []⟩ w := by
  have hst := run_storeCells_at P b j t news 0 cs w hxb (by simpa using hf) (fun v hv => List.all_eq_true.1 h1 v hv)
  simp only [Nat.add_zero] at hst
  have hsz : v.cells.size = news.length := by rw [← hv, Array.length_toList]
  have hr : (execOp (Act.mk l.toArray []).eval o).run P w = .ok .skip (w.setRow b cs') := by
    simp [execOp, ho, hx, hy, Instr.storeAt, Instr.sureAddr, storeVar, run_sizeOf hs, hsz, hv, hst, ← hcs]
  have hg : w.grownBy (w.setRow b cs') (some b) := ⟨rfl, rfl, rfl, by simp [World.setRow], fun k _ hk => setRow_other w b k _ (fun e => hk (by rw [e]))⟩
  have hS' : SG W row (w.setRow b cs') := hS.of_grown hg (by
    rcases hrow with h | h
    · exact .inl h
    · exact .inr (fun k e => by cases e; exact h))
  exact su hi hw hd hr hS' (h _ hg (setRow_heap w b cs _ t (0, 0) hxb) hS')
theorem own_snoc {w : World} {base : Nat} {e : TypeId} {v : Value} {n : Nat} {zs : List Int} {z : Int} (h : w.ownsRow base e 1 v n (intsV zs ++ (#[Value.int .i64 z] : Array Value).toList)) : w.ownsRow base e 1 v n (intsV (zs ++ [z])) := by
  simpa [intsV] using h
theorem own_snocP {w : World} {base : Nat} {e : TypeId} {v : Value} {n : Nat} {ps : List Pp} {x : Pp} (h : w.ownsRow base e 4 v n (pipesV ps ++ (#[Value.int .i64 x.id, .int .i64 x.fr, .int .i64 x.to, .int .i64 x.sz] : Array Value).toList)) : w.ownsRow base e 4 v n (pipesV (ps ++ [x])) := by
  simpa [pipesV, Pp.vals] using h
/-- A block is no row's. -/
def Nb (b : Nat) (v : Value) : Prop := some b ≠ v.ownBlock
theorem nb_lo {w : World} {base : Nat} {e : TypeId} {size : Nat} {v : Value} {n : Nat} {xs : List Value} (how : w.ownsRow base e size v n xs) {b : Nat} (h : b < base) : Nb b v := fun e => by have := (World.ownsRow.lt how b e.symm).1; omega
theorem nb_hi {w : World} {base : Nat} {e : TypeId} {size : Nat} {v : Value} {n : Nat} {xs : List Value} (how : w.ownsRow base e size v n xs) {b : Nat} (h : w.heap.size ≤ b) : Nb b v := fun e => by have := (World.ownsRow.lt how b e.symm).2; omega
theorem nb_app {b g H n c : Nat} {v : Value} (h : Nb b v) (hl : b < H) (hat : v.ownBlock = some g ∨ g = H) : Nb b (.slice (some ⟨g, 0, none⟩) n c) := fun e => by
  have e' : b = g := by simpa [Value.ownBlock] using e
  rcases hat with hat | hat
  · exact h (by rw [hat, e'])
  · omega
theorem nb_new {b g n c : Nat} (h : b ≠ g) : Nb b (.slice (some ⟨g, 0, none⟩) n c) := fun e => h (by simpa [Value.ownBlock] using e)
theorem nb_nil {b n c : Nat} : Nb b (.slice none n c) := fun e => by simp [Value.ownBlock] at e
/-- A block that is known whole, and new, is a row of the call's own. -/
theorem own_blk {w : World} {base b n : Nat} {e : TypeId} {size : Nat} {cs : Array Value} (h : w.heap[b]? = some (.cells cs e (0, 0))) (hb : base ≤ b) (hs : cs.size = n * size) (hm : n ≤ 1000000000) : w.ownsRow base e size (.slice (some ⟨b, 0, none⟩) n n) n cs.toList :=
  ⟨by simpa using hs, .inr ⟨b, n, cs, rfl, hb, h, Nat.le_refl _, by unfold maxLen; omega, hs, List.take_of_length_le (by rw [Array.length_toList, hs]; exact Nat.le_refl _)⟩⟩
theorem own_empty {w : World} {base b : Nat} {e : TypeId} {size : Nat} (h : w.heap[b]? = some (.cells #[] e (0, 0))) (hb : base ≤ b) : w.ownsRow base e size (.slice (some ⟨b, 0, none⟩) 0 0) 0 [] := own_blk (n := 0) h hb (by simp) (by omega)
/-- The facts of a slice's type that an append wants. -/
structure ElT (P : Program) (t e : TypeId) (size : Nat) : Prop where
  und : P.underlying t = some (.slice e)
  info : ∃ i z bytes, P.info? e = some i ∧ i.zero = some z ∧ i.size = size ∧ i.bytes = bytes ∧ z.cells.size = size ∧ 0 < size ∧ bytes ≤ 1000
def elT (P : Program) (t e : TypeId) (size : Nat) : Bool := match P.underlying t with
  | some (.slice e') => e' == e && match P.info? e with
    | some i => match i.zero with
      | some z => i.size == size && (z.cells.size == size && (decide (0 < size) && decide (i.bytes ≤ 1000)))
      | none => false
    | none => false
  | _ => false
theorem elT_of {t e : TypeId} {size : Nat} (h : elT P t e size = true) : ElT P t e size := by
  unfold elT at h
  split at h <;> try cases h
  rename_i e' hu
  simp only [Bool.and_eq_true, beq_iff_eq] at h
  obtain ⟨rfl, h⟩ := h
  split at h <;> try cases h
  rename_i i hi
  split at h <;> try cases h
  rename_i z hz
  simp only [Bool.and_eq_true, beq_iff_eq, decide_eq_true_eq] at h
  exact ⟨hu, i, z, i.bytes, hi, hz, h.1, rfl, h.2.1, h.2.2.1, h.2.2.2⟩
/-- An append of the whole of a block that is known. -/
theorem sap {i : Nat} {π : Sch} {l : List Value} {w : World} {o : Oper} {d : Tmp} {t e t' : TypeId} {s x : Operand} {v : Value} {base size n m b c : Nat} {xs : List Value} {cs : Array Value} (hS : SG W row w) (hi : ops[i]? = some o) (hg : o.guard = none) (hd : o.dst = some d)
    (ho : o.op = .call { callee := .builtin .append, args := #[s, x], argTypes := #[t, t] }) (hs : (Act.mk l.toArray []).eval s = v) (hx : (Act.mk l.toArray []).eval x = .slice (some ⟨b, 0, none⟩) m c) (hT : elT P t e size = true)
    (how : w.ownsRow base e size v n xs) (hxb : w.heap[b]? = some (.cells cs t' (0, 0))) (hl : cs.size = m * size) (h1 : cs.toList.all (·.oneCell') = true) (hm : 0 < m) (hn : n + m ≤ 1000000000) (hb : base ≤ w.heap.size) (hrow : v.ownBlock = row ∨ ∀ k, v.ownBlock = some k → W.heap.size ≤ k)
    (h : ∀ g cap w', w'.ownsRow base e size (.slice (some ⟨g, 0, none⟩) (n + m) cap) (n + m) (xs ++ cs.toList) → w.grownBy w' v.ownBlock → (v.ownBlock = some g ∨ g = w.heap.size) → g < w'.heap.size → SG W row w' →
      wpSch P ops Q (SG W row) π ⟨(l.set d (.slice (some ⟨g, 0, none⟩) (n + m) cap)).toArray, []⟩ w') : wpSch P ops Q (SG W row) (.cons (i, true) π) ⟨l.toArray, []⟩ w := by
  obtain ⟨hu, i0, z, by_, h1i, h2i, h3i, h4i, h5i, h6i, h7i⟩ := elT_of hT
  have hw : Region.wanted o (yielded ops l.toArray) = true := by simp [Region.wanted, hg]
  show wpOp P ops Q i _ _ w
  unfold wpOp
  simp only [hi, hw, if_true]
  left
  refine wp_append_lies w s x t ho base e i0 z size by_ hu h1i h2i h3i h4i h5i h6i v n xs hs how ⟨b, 0, none⟩ m c cs.toList hx (by rw [Array.length_toList, hl]) (World.news_of_block hxb) (fun u hu => List.all_eq_true.1 h1 u hu) hm (by unfold maxLen; omega) ?_ hb _ rfl (fun g cap w' a1 a2 a3 a4 => ?_)
  · have : (n + m) * by_ ≤ 1000000000 * 1000 := Nat.mul_le_mul hn h7i
    omega
  · have hS' := hS.of_grown a2 hrow
    refine ⟨hS', ?_⟩
    have := h g cap w' a1 a2 a3 a4 hS'
    rw [hd]; simpa [Act.put] using this
/-- A store into an element of a row of the call's own, one cell wide. -/
theorem ssr {i : Nat} {π : Sch} {l : List Value} {w : World} {o : Oper} {ty e : TypeId} {x y : Operand} {base g j n c : Nat} {u : Value} {xs : List Value} (hS : SG W row w) (hi : ops[i]? = some o) (hw : Region.wanted o (yielded ops l.toArray) = true) (hd : o.dst = none)
    (ho : o.op = .store ty x y) (hx : (Act.mk l.toArray []).eval x = .pointer (some ⟨g, j, none⟩)) (hy : (Act.mk l.toArray []).eval y = u) (how : w.ownsRow base e 1 (.slice (some ⟨g, 0, none⟩) n c) n xs) (hs : sizeB P ty = some 1)
    (h1 : u.cells = #[u]) (h2 : u.oneCell' = true) (hj : j < n) (hrow : some g = row ∨ W.heap.size ≤ g)
    (h : ∀ w', w'.ownsRow base e 1 (.slice (some ⟨g, 0, none⟩) n c) n (xs.set j u) → w.grownBy w' (some g) → SG W row w' → wpSch P ops Q (SG W row) π ⟨l.toArray, []⟩ w') : wpSch P ops Q (SG W row) (.cons (i, true) π) ⟨l.toArray, []⟩ w := by
  have hcell : w.cell? ⟨g, j, none⟩ = some (xs[j]'(by rw [how.1]; omega)) := by rw [how.cellAt j (by omega), List.getElem?_eq_getElem]
  have hfr := how.frozenAt j
  have hr : (execOp (Act.mk l.toArray []).eval o).run P w = .ok .skip (w.setCell ⟨g, j, none⟩ u) := by
    have h1' : u.cells.size = 1 := by rw [h1]; rfl
    have h1l : u.cells.toList = [u] := by rw [h1]
    simp [execOp, ho, hx, hy, Instr.storeAt, Instr.sureAddr, storeVar, run_sizeOf hs, h1', h1l, storeCells, Addr.add, run_store P w _ u _ h2, hcell, hfr]
  obtain ⟨h3, h4⟩ := how.stored j u
  have hS' : SG W row (w.setCell ⟨g, j, none⟩ u) := hS.of_grown h4 (by
    rcases hrow with h | h
    · exact .inl h
    · exact .inr (fun k e => by cases e; exact h))
  exact su hi hw hd hr hS' (h _ h3 h4 hS')
theorem own_addr {w : World} {base : Nat} {e : TypeId} {size : Nat} {A : Option Addr} {n c : Nat} {xs : List Value} (how : w.ownsRow base e size (.slice A n c) n xs) (hn : 0 < n) : ∃ g, A = some ⟨g, 0, none⟩ ∧ base ≤ g ∧ g < w.heap.size := by
  obtain ⟨g, cap, hv, h1, h2⟩ := how.form hn
  simp only [Value.slice.injEq] at hv
  exact ⟨g, hv.1, h1, h2⟩
end

section
variable {P : Program} {S : World → Prop} {o : Oper} {a : Act}
/-- The address of an element of a row that lies at a block's head. -/
theorem r_idx0 {t : TypeId} {x i : Operand} {b n c k : Nat} (ho : o.op = .indexAddr t x i) (hx : a.eval x = .slice (some ⟨b, 0, none⟩) n c) (hi : a.eval i = .int .i64 (k : Int)) (ht : elSz P t = some 1) (hk : k < n) :
    ∀ w, S w → (execOp a.eval o).run P w = .ok (.value (.pointer (some ⟨b, k, none⟩))) w := by
  have := r_idx1 (S := S) ho hx rfl hi ht hk
  rwa [Nat.zero_add] at this
end

/-- What a function that makes a list of numbers, and says whether it could, hands back. -/
theorem fin_ints {w w' : World} {e : TypeId} {A : Option Addr} {n c : Nat} {zs vs : List Int} {b vb : Bool} (how : w'.ownsRow w.heap.size e 1 (.slice A n c) n (intsV zs)) (hz : zs = vs) (hb : b = vb) (bel : Below w.heap.size w w') :
    ∃ A' d, Ending.returned (.tuple #[.slice A n c, .bool b]) = .returned (.tuple #[.slice A' vs.length d, .bool vb]) ∧ w'.ownsRow w.heap.size e 1 (.slice A' vs.length d) vs.length (intsV vs) ∧ Below w.heap.size w w' := by
  subst hz hb
  have hl := own_len how
  rw [ints_len] at hl
  subst hl
  exact ⟨_, _, rfl, how, bel⟩

end Go.Proofs.YtdlcldaogcbnlaaDoor
