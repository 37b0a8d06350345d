/- The laws of the schedules for regions that write several blocks. No program is named here. -/
import Derived.Test.YtdlcldaogcbnlaaDoorWa
import Derived.Test.YtdlcldaogcbnlaaDoorSch3
namespace Go.Proofs.YtdlcldaogcbnlaaDoor
open Go.RowKit
set_option linter.unusedVariables false

/-- Worlds that keep all of W but some blocks. -/
structure SM (W : World) (row : List (Option Nat)) (w : World) : Prop where
  os : w.os = W.os
  tape : w.tape = W.tape
  output : w.output = W.output
  size : W.heap.size ≤ w.heap.size
  block : ∀ k, k < W.heap.size → some k ∉ row → w.heap[k]? = W.heap[k]?
theorem SM.self (W : World) (row : List (Option Nat)) : SM W row W := ⟨rfl, rfl, rfl, Nat.le_refl _, fun _ _ _ => rfl⟩
theorem SM.of_below {W w w' : World} {row : List (Option Nat)} (h : SM W row w) (b : Below w.heap.size w w') : SM W row w' :=
  ⟨b.os.trans h.os, b.tape.trans h.tape, b.output.trans h.output, Nat.le_trans h.size b.size, fun k hk hn => (b.block k (Nat.lt_of_lt_of_le hk h.size)).trans (h.block k hk hn)⟩
theorem SM.of_grown {W w w' : World} {row : List (Option Nat)} (h : SM W row w) {r : Option Nat} (b : w.grownBy w' r) (hr : r ∈ row ∨ ∀ k, r = some k → W.heap.size ≤ k) : SM W row w' :=
  ⟨b.os.trans h.os, b.tape.trans h.tape, b.output.trans h.output, Nat.le_trans h.size b.size, fun k hk hn => (b.block k (Nat.lt_of_lt_of_le hk h.size) (fun e => by
    rcases hr with hr | hr
    · exact hn (by rw [e]; exact hr)
    · have := hr k e.symm; omega)).trans (h.block k hk hn)⟩
theorem SM.cell {W w : World} {row : List (Option Nat)} (h : SM W row w) {a : Addr} {v : Value} (hc : W.cell? a = some v) (hne : some a.block ∉ row) : w.cell? a = some v :=
  (World.cell?_of_block (h.block a.block (World.block_lt_of_cell? W a hc) hne)).trans hc
theorem SM.blk {W w : World} {row : List (Option Nat)} (h : SM W row w) {b : Nat} {o : Obj} (hc : W.heap[b]? = some o) (hne : some b ∉ row) : w.heap[b]? = some o := (h.block b (blk_lt hc) hne).trans hc
theorem SM.belowR {W w w0 : World} {row : List (Option Nat)} (c : Below w0.heap.size w0 W) (h : SM W row w) (hr : ∀ k, some k ∈ row → w0.heap.size ≤ k) : Below w0.heap.size w0 w :=
  ⟨h.os.trans c.os, h.tape.trans c.tape, h.output.trans c.output, Nat.le_trans c.size h.size, fun k hk => (h.block k (Nat.lt_of_lt_of_le hk c.size) (fun e => by have := hr k e; omega)).trans (c.block k hk)⟩
/-- The frame of a call that writes one block. -/
theorem SM.fr {W w w0 : World} {row : List (Option Nat)} {B : Nat} (c : w0.grownBy W (some B)) (h : SM W row w) (hr : ∀ k, some k ∈ row → k = B ∨ w0.heap.size ≤ k) : w0.grownBy w (some B) :=
  ⟨h.os.trans c.os, h.tape.trans c.tape, h.output.trans c.output, Nat.le_trans c.size h.size, fun k hk hn => (h.block k (Nat.lt_of_lt_of_le hk c.size) (fun e => by
    rcases hr k e with h1 | h1
    · exact hn (by rw [h1])
    · omega)).trans (c.block k hk hn)⟩
theorem SG.fr {W w w0 : World} {row : Option Nat} {B : Nat} (c : w0.grownBy W (some B)) (h : SG W row w) (hr : ∀ k, row = some k → k = B ∨ w0.heap.size ≤ k) : w0.grownBy w (some B) :=
  ⟨h.os.trans c.os, h.tape.trans c.tape, h.output.trans c.output, Nat.le_trans c.size h.size, fun k hk hn => (h.block k (Nat.lt_of_lt_of_le hk c.size) (fun e => by
    rcases hr k e.symm with h1 | h1
    · exact hn (by rw [h1])
    · omega)).trans (c.block k hk hn)⟩
theorem fr_below {w0 W w : World} {B : Nat} (c : w0.grownBy W (some B)) (b : Below W.heap.size W w) : w0.grownBy w (some B) :=
  ⟨b.os.trans c.os, b.tape.trans c.tape, b.output.trans c.output, Nat.le_trans c.size b.size, fun k hk hn => (b.block k (Nat.lt_of_lt_of_le hk c.size)).trans (c.block k hk hn)⟩
theorem smS {W : World} {row : List (Option Nat)} {p : Addr} {v : Value} (h : W.cell? p = some v) (hne : some p.block ∉ row) : ∀ w, SM W row w → w.cell? p = some v := fun w e => SM.cell e h hne
theorem ne2 {x a b : Option Nat} (h1 : x ≠ a) (h2 : x ≠ b) : x ∉ [a, b] := by simp [h1, h2]
theorem ne3 {x a b c : Option Nat} (h1 : x ≠ a) (h2 : x ≠ b) (h3 : x ≠ c) : x ∉ [a, b, c] := by simp [h1, h2, h3]
theorem ne4 {x a b c d : Option Nat} (h1 : x ≠ a) (h2 : x ≠ b) (h3 : x ≠ c) (h4 : x ≠ d) : x ∉ [a, b, c, d] := by simp [h1, h2, h3, h4]
theorem in2 {p : Nat → Prop} {a b : Option Nat} (h1 : ∀ k, a = some k → p k) (h2 : ∀ k, b = some k → p k) : ∀ k, some k ∈ [a, b] → p k := fun k h => by
  simp only [List.mem_cons, List.not_mem_nil, or_false] at h
  rcases h with h | h
  · exact h1 k h.symm
  · exact h2 k h.symm
theorem in3 {p : Nat → Prop} {a b c : Option Nat} (h1 : ∀ k, a = some k → p k) (h2 : ∀ k, b = some k → p k) (h3 : ∀ k, c = some k → p k) : ∀ k, some k ∈ [a, b, c] → p k := fun k h => by
  simp only [List.mem_cons, List.not_mem_nil, or_false] at h
  rcases h with h | h | h
  · exact h1 k h.symm
  · exact h2 k h.symm
  · exact h3 k h.symm

namespace M
section
variable {P : Program} {ops : Array Oper} {Q : Exit → Act → World → Prop} {W : World} {row : List (Option Nat)} {S : World → Prop}

theorem region_sch0 {W : World} {row : List (Option Nat)} {id : Nat} {a : Act} (π : Sch) (hm : P.follows .mixedOrders = true) (hs : Region.noSelect ops = true) (hQ : ∀ c d v a w, Q (.panic c) (Act.put a d v) w → Q (.panic c) a w)
    (hok : schOk .any ops ops.size π (Array.replicate ops.size false) = true) (h : ∀ w, w.heap = W.heap → SM W row w → wpSch P ops Q (SM W row) π a w) : (Code.region id ops true).wp P Q a W := by
  have hS : SM W row { W with drawn := W.drawn + 1 } := ⟨rfl, rfl, rfl, Nat.le_refl _, fun _ _ _ => rfl⟩
  exact wp_region_held hm (anyH_of_sch hs hQ _ π _ a _ hok hS (h _ rfl hS))

theorem region_plain0 {W : World} {row : List (Option Nat)} {id : Nat} {a : Act} (π : List (Nat × Bool)) (hn : π.map (·.1) = List.range ops.size) (h : wpSch P ops Q (SM W row) (Sch.of π) a W) : (Code.region id ops false).wp P Q a W := by
  have := ops_of_sch π a W (SM.self W row) h
  rw [hn] at this
  exact wp_region this

theorem sn0 {i : Nat} {π : Sch} {l : List Value} {w : World} {o : Oper} {d : Tmp} (mk : Nat → Value) (cs : Array Value) (t : TypeId) (hS : SM W row w) (hi : ops[i]? = some o) (hw : Region.wanted o (yielded ops l.toArray) = true) (hd : o.dst = some d)
    (hr : ∀ w, (execOp (Act.mk l.toArray []).eval o).run P w = .ok (.value (mk w.heap.size)) (w.alloc (.cells cs t (0, 0))))
    (h : ∀ b w', w.heap.size = b → Below w.heap.size w w' → w'.heap[b]? = some (.cells cs t (0, 0)) → SM W row w' → wpSch P ops Q (SM W row) π ⟨(l.set d (mk b)).toArray, []⟩ w') : wpSch P ops Q (SM W row) (.cons (i, true) π) ⟨l.toArray, []⟩ w :=
  sl hi hw hd (hr w) (hS.of_below (below_a1 _ _)) (h _ _ rfl (below_a1 _ _) (heap_alloc_new w _) (hS.of_below (below_a1 _ _)))

theorem ss0 {i : Nat} {π : Sch} {l : List Value} {w : World} {o : Oper} {ty t : TypeId} {x y : Operand} {b j : Nat} {v : Value} {news : List Value} {cs cs' : Array Value} (hS : SM W row w) (hi : ops[i]? = some o) (hw : Region.wanted o (yielded ops l.toArray) = true) (hd : o.dst = none)
    (ho : o.op = .store ty x y) (hx : (Act.mk l.toArray []).eval x = .pointer (some ⟨b, j, none⟩)) (hy : (Act.mk l.toArray []).eval y = v) (hxb : w.heap[b]? = some (.cells cs t (0, 0))) (hv : v.cells.toList = news) (hs : sizeB P ty = some news.length)
    (hf : j + news.length ≤ cs.size) (h1 : news.all (·.oneCell') = true) (hcs : (cs.toList.take j ++ news ++ cs.toList.drop (j + news.length)).toArray = cs') (hrow : some b ∈ row ∨ W.heap.size ≤ b)
    (h : ∀ w', w.grownBy w' (some b) → w'.heap[b]? = some (.cells cs' t (0, 0)) → SM W row w' → wpSch P ops Q (SM W row) π ⟨l.toArray, []⟩ w') : wpSch P ops Q (SM W row) (.cons (i, true) π) ⟨l.toArray, []⟩ w := by
  have hst := run_storeCells_at P b j t news 0 cs w hxb (by simpa using hf) (fun v hv => List.all_eq_true.1 h1 v hv)
  simp only [Nat.add_zero] at hst
  have hsz : v.cells.size = news.length := by rw [← hv, Array.length_toList]
  have hr : (execOp (Act.mk l.toArray []).eval o).run P w = .ok .skip (w.setRow b cs') := by
    simp [execOp, ho, hx, hy, Instr.storeAt, Instr.sureAddr, storeVar, run_sizeOf hs, hsz, hv, hst, ← hcs]
  have hg : w.grownBy (w.setRow b cs') (some b) := ⟨rfl, rfl, rfl, by simp [World.setRow], fun k _ hk => setRow_other w b k _ (fun e => hk (by rw [e]))⟩
  have hS' : SM W row (w.setRow b cs') := hS.of_grown hg (by
    rcases hrow with h | h
    · exact .inl h
    · exact .inr (fun k e => by cases e; exact h))
  exact su hi hw hd hr hS' (h _ hg (setRow_heap w b cs _ t (0, 0) hxb) hS')

theorem sap0 {i : Nat} {π : Sch} {l : List Value} {w : World} {o : Oper} {d : Tmp} {t e t' : TypeId} {s x : Operand} {v : Value} {base size n m b c : Nat} {xs : List Value} {cs : Array Value} (hS : SM W row w) (hi : ops[i]? = some o) (hg : o.guard = none) (hd : o.dst = some d)
    (ho : o.op = .call { callee := .builtin .append, args := #[s, x], argTypes := #[t, t] }) (hs : (Act.mk l.toArray []).eval s = v) (hx : (Act.mk l.toArray []).eval x = .slice (some ⟨b, 0, none⟩) m c) (hT : elT P t e size = true)
    (how : w.ownsRow base e size v n xs) (hxb : w.heap[b]? = some (.cells cs t' (0, 0))) (hl : cs.size = m * size) (h1 : cs.toList.all (·.oneCell') = true) (hm : 0 < m) (hn : n + m ≤ 1000000000) (hb : base ≤ w.heap.size) (hrow : v.ownBlock ∈ row ∨ ∀ k, v.ownBlock = some k → W.heap.size ≤ k)
    (h : ∀ g cap w', w'.ownsRow base e size (.slice (some ⟨g, 0, none⟩) (n + m) cap) (n + m) (xs ++ cs.toList) → w.grownBy w' v.ownBlock → (v.ownBlock = some g ∨ g = w.heap.size) → g < w'.heap.size → SM W row w' →
      wpSch P ops Q (SM W row) π ⟨(l.set d (.slice (some ⟨g, 0, none⟩) (n + m) cap)).toArray, []⟩ w') : wpSch P ops Q (SM W row) (.cons (i, true) π) ⟨l.toArray, []⟩ w := by
  obtain ⟨hu, i0, z, by_, h1i, h2i, h3i, h4i, h5i, h6i, h7i⟩ := elT_of hT
  have hw : Region.wanted o (yielded ops l.toArray) = true := by simp [Region.wanted, hg]
  show wpOp P ops Q i _ _ w
  unfold wpOp
  simp only [hi, hw, if_true]
  left
  refine wp_append_lies w s x t ho base e i0 z size by_ hu h1i h2i h3i h4i h5i h6i v n xs hs how ⟨b, 0, none⟩ m c cs.toList hx (by rw [Array.length_toList, hl]) (World.news_of_block hxb) (fun u hu => List.all_eq_true.1 h1 u hu) hm (by unfold maxLen; omega) ?_ hb _ rfl (fun g cap w' a1 a2 a3 a4 => ?_)
  · have : (n + m) * by_ ≤ 1000000000 * 1000 := Nat.mul_le_mul hn h7i
    omega
  · have hS' := hS.of_grown a2 hrow
    refine ⟨hS', ?_⟩
    have := h g cap w' a1 a2 a3 a4 hS'
    rw [hd]; simpa [Act.put] using this

theorem ssr0 {i : Nat} {π : Sch} {l : List Value} {w : World} {o : Oper} {ty e : TypeId} {x y : Operand} {base g j n c : Nat} {u : Value} {xs : List Value} (hS : SM W row w) (hi : ops[i]? = some o) (hw : Region.wanted o (yielded ops l.toArray) = true) (hd : o.dst = none)
    (ho : o.op = .store ty x y) (hx : (Act.mk l.toArray []).eval x = .pointer (some ⟨g, j, none⟩)) (hy : (Act.mk l.toArray []).eval y = u) (how : w.ownsRow base e 1 (.slice (some ⟨g, 0, none⟩) n c) n xs) (hs : sizeB P ty = some 1)
    (h1 : u.cells = #[u]) (h2 : u.oneCell' = true) (hj : j < n) (hrow : some g ∈ row ∨ W.heap.size ≤ g)
    (h : ∀ w', w'.ownsRow base e 1 (.slice (some ⟨g, 0, none⟩) n c) n (xs.set j u) → w.grownBy w' (some g) → SM W row w' → wpSch P ops Q (SM W row) π ⟨l.toArray, []⟩ w') : wpSch P ops Q (SM W row) (.cons (i, true) π) ⟨l.toArray, []⟩ w := by
  have hcell : w.cell? ⟨g, j, none⟩ = some (xs[j]'(by rw [how.1]; omega)) := by rw [how.cellAt j (by omega), List.getElem?_eq_getElem]
  have hfr := how.frozenAt j
  have hr : (execOp (Act.mk l.toArray []).eval o).run P w = .ok .skip (w.setCell ⟨g, j, none⟩ u) := by
    have h1' : u.cells.size = 1 := by rw [h1]; rfl
    have h1l : u.cells.toList = [u] := by rw [h1]
    simp [execOp, ho, hx, hy, Instr.storeAt, Instr.sureAddr, storeVar, run_sizeOf hs, h1', h1l, storeCells, Addr.add, run_store P w _ u _ h2, hcell, hfr]
  obtain ⟨h3, h4⟩ := how.stored j u
  have hS' : SM W row (w.setCell ⟨g, j, none⟩ u) := hS.of_grown h4 (by
    rcases hrow with h | h
    · exact .inl h
    · exact .inr (fun k e => by cases e; exact h))
  exact su hi hw hd hr hS' (h _ h3 h4 hS')

theorem sapR0 {i : Nat} {π : Sch} {l : List Value} {w : World} {o : Oper} {d : Tmp} {t e : TypeId} {s x : Operand} {v : Value} {base size n m c : Nat} {A : Option Addr} {xs news : List Value} (hS : SM W row w) (hi : ops[i]? = some o) (hg : o.guard = none) (hd : o.dst = some d)
    (ho : o.op = .call { callee := .builtin .append, args := #[s, x], argTypes := #[t, t] }) (hs : (Act.mk l.toArray []).eval s = v) (hx : (Act.mk l.toArray []).eval x = .slice A m c) (hT : elT P t e size = true)
    (how : w.ownsRow base e size v n xs) (hrd : Rd w size A m news) (hf : Fm A m c) (h1 : ∀ u ∈ news, u.oneCell' = true) (hn : n + m ≤ 1000000000) (hb : base ≤ w.heap.size) (hrow : v.ownBlock ∈ row ∨ ∀ k, v.ownBlock = some k → W.heap.size ≤ k)
    (h : ∀ A' c' w', w'.ownsRow base e size (.slice A' (n + m) c') (n + m) (xs ++ news) → w.grownBy w' v.ownBlock → ((Value.slice A' (n + m) c').ownBlock = v.ownBlock ∨ (Value.slice A' (n + m) c').ownBlock = some w.heap.size) → SM W row w' →
      wpSch P ops Q (SM W row) π ⟨(l.set d (.slice A' (n + m) c')).toArray, []⟩ w') : wpSch P ops Q (SM W row) (.cons (i, true) π) ⟨l.toArray, []⟩ w := by
  obtain ⟨hu, i0, z, by_, h1i, h2i, h3i, h4i, h5i, h6i, h7i⟩ := elT_of hT
  have hw : Region.wanted o (yielded ops l.toArray) = true := by simp [Region.wanted, hg]
  cases A with
  | none =>
    obtain rfl : c = 0 := hf.nil rfl
    obtain rfl : m = 0 := by have := hf.le; omega
    obtain rfl : news = [] := List.eq_nil_of_length_eq_zero (by have := hrd.1; omega)
    obtain ⟨A', c', rfl⟩ := own_form how
    have hrun := run_append_owned_none (P := P) (w := w) base t o.type e i0 size hu h1i _ n xs how
    have hr : (execOp (Act.mk l.toArray []).eval o).run P w = .ok (.value (.slice A' n c')) w := by
      simp [execOp, ho, resolve, invoke, builtin, hs, hx, hrun, Result.andThen]
    refine sl hi hw hd hr hS ?_
    exact h A' c' w (by simpa using how) (World.grownBy.refl _ _) (.inl rfl) hS
  | some ad =>
    have hnews : ∀ j u, news[j]? = some u → w.cell? (ad.add j) = some u := fun j u hu => by
      have hlt : j < news.length := (List.getElem?_eq_some_iff.1 hu).1
      have hm : 0 < m := by
        rcases Nat.eq_zero_or_pos m with e | e
        · subst e; have := hrd.1; omega
        · exact e
      obtain ⟨b, off, e, _, hc⟩ := hrd.2 hm
      cases e
      rw [Addr.add_lit]; exact hc j u hu
    have hby : (n + m) * by_ ≤ 140737488355328 := Nat.le_trans (Nat.mul_le_mul hn h7i) (by decide)
    obtain ⟨v', w', hrun, a2, a3, _, a5⟩ := run_append_own_at (P := P) w base t o.type e i0 z size by_ hu h1i h2i h3i h4i h5i h6i v n xs how ad m c news hrd.1 hnews h1 (by unfold maxLen; omega) hby hb
    obtain ⟨A', c', rfl⟩ := own_form a2
    have hr : (execOp (Act.mk l.toArray []).eval o).run P w = .ok (.value (.slice A' (n + m) c')) w' := by
      simp [execOp, ho, resolve, invoke, builtin, hs, hx, hrun, Result.andThen]
    have hS' := hS.of_grown a3 hrow
    exact sl hi hw hd hr hS' (h A' c' w' a2 a3 a5 hS')

theorem region_sch {id : Nat} {l : List Value} (π : Sch) (hm : P.follows .mixedOrders = true) (hs : Region.noSelect ops = true) (hQ : ∀ c d v a w, Q (.panic c) (Act.put a d v) w → Q (.panic c) a w)
    (hok : schOk .any ops ops.size π (Array.replicate ops.size false) = true) (h : ∀ w, w.heap = W.heap → SM W row w → Ws P ops Q (SM W row) π l w) : (Code.region id ops true).wp P Q ⟨l.toArray, []⟩ W :=
  region_sch0 π hm hs hQ hok (fun w e s => (h w e s).out)

theorem region_plain {id : Nat} {l : List Value} (π : List (Nat × Bool)) (hn : π.map (·.1) = List.range ops.size) (h : Ws P ops Q (SM W row) (Sch.of π) l W) : (Code.region id ops false).wp P Q ⟨l.toArray, []⟩ W := region_plain0 π hn h.out

theorem sn {i : Nat} {π : Sch} {l : List Value} {w : World} {o : Oper} {d : Tmp} (mk : Nat → Value) (cs : Array Value) (t : TypeId) (hS : SM W row w) (hi : ops[i]? = some o) (hw : Region.wanted o (yielded ops l.toArray) = true) (hd : o.dst = some d)
    (hr : ∀ w, (execOp (Act.mk l.toArray []).eval o).run P w = .ok (.value (mk w.heap.size)) (w.alloc (.cells cs t (0, 0))))
    (h : ∀ b w', w.heap.size = b → Below w.heap.size w w' → w'.heap[b]? = some (.cells cs t (0, 0)) → SM W row w' → Ws P ops Q (SM W row) π (l.set d (mk b)) w') : Ws P ops Q (SM W row) (.cons (i, true) π) l w :=
  ⟨sn0 mk cs t hS hi hw hd hr (fun b w' a1 a2 a3 a4 => (h b w' a1 a2 a3 a4).out)⟩

theorem ss {i : Nat} {π : Sch} {l : List Value} {w : World} {o : Oper} {ty t : TypeId} {x y : Operand} {b j : Nat} {v : Value} {news : List Value} {cs cs' : Array Value} (hS : SM W row w) (hi : ops[i]? = some o) (hw : Region.wanted o (yielded ops l.toArray) = true) (hd : o.dst = none)
    (ho : o.op = .store ty x y) (hx : (Act.mk l.toArray []).eval x = .pointer (some ⟨b, j, none⟩)) (hy : (Act.mk l.toArray []).eval y = v) (hxb : w.heap[b]? = some (.cells cs t (0, 0))) (hv : v.cells.toList = news) (hs : sizeB P ty = some news.length)
    (hf : j + news.length ≤ cs.size) (h1 : news.all (·.oneCell') = true) (hcs : (cs.toList.take j ++ news ++ cs.toList.drop (j + news.length)).toArray = cs') (hrow : some b ∈ row ∨ W.heap.size ≤ b)
    (h : ∀ w', w.grownBy w' (some b) → w'.heap[b]? = some (.cells cs' t (0, 0)) → SM W row w' → Ws P ops Q (SM W row) π l w') : Ws P ops Q (SM W row) (.cons (i, true) π) l w :=
  ⟨ss0 hS hi hw hd ho hx hy hxb hv hs hf h1 hcs hrow (fun w' a1 a2 a3 => (h w' a1 a2 a3).out)⟩

theorem sap {i : Nat} {π : Sch} {l : List Value} {w : World} {o : Oper} {d : Tmp} {t e t' : TypeId} {s x : Operand} {v : Value} {base size n m b c : Nat} {xs : List Value} {cs : Array Value} (hS : SM W row w) (hi : ops[i]? = some o) (hg : o.guard = none) (hd : o.dst = some d)
    (ho : o.op = .call { callee := .builtin .append, args := #[s, x], argTypes := #[t, t] }) (hs : (Act.mk l.toArray []).eval s = v) (hx : (Act.mk l.toArray []).eval x = .slice (some ⟨b, 0, none⟩) m c) (hT : elT P t e size = true)
    (how : w.ownsRow base e size v n xs) (hxb : w.heap[b]? = some (.cells cs t' (0, 0))) (hl : cs.size = m * size) (h1 : cs.toList.all (·.oneCell') = true) (hm : 0 < m) (hn : n + m ≤ 1000000000) (hb : base ≤ w.heap.size) (hrow : v.ownBlock ∈ row ∨ ∀ k, v.ownBlock = some k → W.heap.size ≤ k)
    (h : ∀ g cap w', w'.ownsRow base e size (.slice (some ⟨g, 0, none⟩) (n + m) cap) (n + m) (xs ++ cs.toList) → w.grownBy w' v.ownBlock → (v.ownBlock = some g ∨ g = w.heap.size) → g < w'.heap.size → SM W row w' →
      Ws P ops Q (SM W row) π (l.set d (.slice (some ⟨g, 0, none⟩) (n + m) cap)) w') : Ws P ops Q (SM W row) (.cons (i, true) π) l w :=
  ⟨sap0 hS hi hg hd ho hs hx hT how hxb hl h1 hm hn hb hrow (fun g cap w' a1 a2 a3 a4 a5 => (h g cap w' a1 a2 a3 a4 a5).out)⟩

theorem ssr {i : Nat} {π : Sch} {l : List Value} {w : World} {o : Oper} {ty e : TypeId} {x y : Operand} {base g j n c : Nat} {u : Value} {xs : List Value} (hS : SM W row w) (hi : ops[i]? = some o) (hw : Region.wanted o (yielded ops l.toArray) = true) (hd : o.dst = none)
    (ho : o.op = .store ty x y) (hx : (Act.mk l.toArray []).eval x = .pointer (some ⟨g, j, none⟩)) (hy : (Act.mk l.toArray []).eval y = u) (how : w.ownsRow base e 1 (.slice (some ⟨g, 0, none⟩) n c) n xs) (hs : sizeB P ty = some 1)
    (h1 : u.cells = #[u]) (h2 : u.oneCell' = true) (hj : j < n) (hrow : some g ∈ row ∨ W.heap.size ≤ g)
    (h : ∀ w', w'.ownsRow base e 1 (.slice (some ⟨g, 0, none⟩) n c) n (xs.set j u) → w.grownBy w' (some g) → SM W row w' → Ws P ops Q (SM W row) π l w') : Ws P ops Q (SM W row) (.cons (i, true) π) l w :=
  ⟨ssr0 hS hi hw hd ho hx hy how hs h1 h2 hj hrow (fun w' a1 a2 a3 => (h w' a1 a2 a3).out)⟩

theorem sapR {i : Nat} {π : Sch} {l : List Value} {w : World} {o : Oper} {d : Tmp} {t e : TypeId} {s x : Operand} {v : Value} {base size n m c : Nat} {A : Option Addr} {xs news : List Value} (hS : SM W row w) (hi : ops[i]? = some o) (hg : o.guard = none) (hd : o.dst = some d)
    (ho : o.op = .call { callee := .builtin .append, args := #[s, x], argTypes := #[t, t] }) (hs : (Act.mk l.toArray []).eval s = v) (hx : (Act.mk l.toArray []).eval x = .slice A m c) (hT : elT P t e size = true)
    (how : w.ownsRow base e size v n xs) (hrd : Rd w size A m news) (hf : Fm A m c) (h1 : ∀ u ∈ news, u.oneCell' = true) (hn : n + m ≤ 1000000000) (hb : base ≤ w.heap.size) (hrow : v.ownBlock ∈ row ∨ ∀ k, v.ownBlock = some k → W.heap.size ≤ k)
    (h : ∀ A' c' w', w'.ownsRow base e size (.slice A' (n + m) c') (n + m) (xs ++ news) → w.grownBy w' v.ownBlock → ((Value.slice A' (n + m) c').ownBlock = v.ownBlock ∨ (Value.slice A' (n + m) c').ownBlock = some w.heap.size) → SM W row w' →
      Ws P ops Q (SM W row) π (l.set d (.slice A' (n + m) c')) w') : Ws P ops Q (SM W row) (.cons (i, true) π) l w :=
  ⟨sapR0 hS hi hg hd ho hs hx hT how hrd hf h1 hn hb hrow (fun A' c'' w' a1 a2 a3 a4 => (h A' c'' w' a1 a2 a3 a4).out)⟩

end
end M

end Go.Proofs.YtdlcldaogcbnlaaDoor
