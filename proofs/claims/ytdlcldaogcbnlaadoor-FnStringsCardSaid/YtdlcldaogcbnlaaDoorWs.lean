/- The laws of the schedules over a goal that no look unfolds. No program is named here. -/
import Derived.Test.YtdlcldaogcbnlaaDoorSch6
namespace Go.Proofs.YtdlcldaogcbnlaaDoor
open Go.RowKit
set_option linter.unusedVariables false

section
variable {P : Program} {ops : Array Oper} {Q : Exit → Act → World → Prop} {W : World} {row : Option Nat} {S : World → Prop}
/-- The walk of a schedule, shut. -/
structure Ws (P : Program) (ops : Array Oper) (Q : Exit → Act → World → Prop) (S : World → Prop) (π : Sch) (l : List Value) (w : World) : Prop where
  out : wpSch P ops Q S π ⟨l.toArray, []⟩ w
theorem W.sbr3 {i j k : Nat} {s t u : Sch} {l : List Value} {w : World} (h1 : Ws P ops Q S (.cons (i, true) s) l w) (h2 : Ws P ops Q S (.cons (j, true) t) l w) (h3 : Ws P ops Q S (.cons (k, true) u) l w) : Ws P ops Q S (.br3 i j k s t u) l w := ⟨Go.Proofs.YtdlcldaogcbnlaaDoor.sbr3 h1.out h2.out h3.out⟩
theorem W.sbr {i j : Nat} {s t : Sch} {l : List Value} {w : World} (h1 : Ws P ops Q S (.cons (i, true) s) l w) (h2 : Ws P ops Q S (.cons (j, true) t) l w) : Ws P ops Q S (.br i j s t) l w := ⟨Go.Proofs.YtdlcldaogcbnlaaDoor.sbr h1.out h2.out⟩
theorem W.sch_end {l l' : List Value} {w : World} (hl : l = l') (h : Q .normal ⟨l'.toArray, []⟩ w) : Ws P ops Q S .nil l w := ⟨Go.Proofs.YtdlcldaogcbnlaaDoor.sch_end (by rw [hl]; exact h)⟩
theorem W.sch_endU {l : List Value} {w : World} (f : (Nat → Value) → List Value) (hl : l = f (fun i => l.getD i undef)) (h : ∀ U, Q .normal ⟨(f U).toArray, []⟩ w) : Ws P ops Q S .nil l w := ⟨Go.Proofs.YtdlcldaogcbnlaaDoor.sch_end (by rw [hl]; exact h _)⟩
theorem W.region_sch {id : Nat} {l : List Value} (π : Sch) (hm : P.follows .mixedOrders = true) (hs : Region.noSelect ops = true) (hQ : ∀ c d v a w, Q (.panic c) (Act.put a d v) w → Q (.panic c) a w)
    (hok : schOk .any ops ops.size π (Array.replicate ops.size false) = true) (h : ∀ w, w.heap = W.heap → SG W row w → Ws P ops Q (SG W row) π l w) : (Code.region id ops true).wp P Q ⟨l.toArray, []⟩ W :=
  Go.Proofs.YtdlcldaogcbnlaaDoor.region_sch π hm hs hQ hok (fun w e s => (h w e s).out)
theorem W.region_plain {id : Nat} {l : List Value} (π : List (Nat × Bool)) (hn : π.map (·.1) = List.range ops.size) (h : Ws P ops Q (SG W row) (Sch.of π) l W) : (Code.region id ops false).wp P Q ⟨l.toArray, []⟩ W := Go.Proofs.YtdlcldaogcbnlaaDoor.region_plain π hn h.out
theorem W.region_quiet {id : Nat} {l : List Value} (π : List (Nat × Bool)) (hn : π.map (·.1) = List.range ops.size) (h : Ws P ops Q (fun w => w = W) (Sch.of π) l W) : (Code.region id ops false).wp P Q ⟨l.toArray, []⟩ W := Go.Proofs.YtdlcldaogcbnlaaDoor.region_quiet π hn h.out

theorem W.sq {i : Nat} {π : Sch} {l l' : List Value} {w : World} {o : Oper} {v : Value} {d : Tmp} (hi : ops[i]? = some o) (hr : ∀ w, S w → (execOp (Act.mk l.toArray []).eval o).run P w = .ok (.value v) w)
    (hw : Region.wanted o (yielded ops l.toArray) = true) (hd : o.dst = some d) (hl : l.set d v = l') (h : Ws P ops Q S π l' w) : Ws P ops Q S (.cons (i, false) π) l w :=
  ⟨Go.Proofs.YtdlcldaogcbnlaaDoor.sq hi hr hw hd hl h.out⟩
theorem W.sk {i : Nat} {b : Bool} {π : Sch} {l l' : List Value} {w : World} {o : Oper} {d : Tmp} (hS : S w) (hi : ops[i]? = some o)
    (hw : Region.wanted o (yielded ops l.toArray) = false) (hd : o.dst = some d) (hl : l.set d undef = l') (h : Ws P ops Q S π l' w) : Ws P ops Q S (.cons (i, b) π) l w :=
  ⟨Go.Proofs.YtdlcldaogcbnlaaDoor.sk hS hi hw hd hl h.out⟩
theorem W.sc {i : Nat} {π : Sch} {l : List Value} {w : World} {o : Oper} {d : Tmp} {f : FuncId} {as : Array Operand} {ts : Array TypeId} {vs : List Value} {R : Ending → World → Prop} (hi : ops[i]? = some o)
    (ho : o.op = .call { callee := .value (.func f), args := as, argTypes := ts }) (hv : as.toList.map (Act.mk l.toArray []).eval = vs) (he : enters P f = true)
    (hw : Region.wanted o (yielded ops l.toArray) = true) (hd : o.dst = some d) (hc : Calls P f vs.toArray w R)
    (h : ∀ e w', R e w' → ∃ v, e = .returned v ∧ S w' ∧ Ws P ops Q S π (l.set d v) w') : Ws P ops Q S (.cons (i, true) π) l w :=
  ⟨Go.Proofs.YtdlcldaogcbnlaaDoor.sc hi ho hv he hw hd hc (fun e w' hR => let ⟨v, h1, h2, h3⟩ := h e w' hR; ⟨v, h1, h2, h3.out⟩)⟩
theorem W.scv {i : Nat} {π : Sch} {l : List Value} {w : World} {o : Oper} {d : Tmp} {g : FuncId} {lb : Array Value} {x : Operand} {as : Array Operand} {ts : Array TypeId} {vs : List Value} {R : Ending → World → Prop} (hi : ops[i]? = some o)
    (ho : o.op = .call { callee := .value x, args := as, argTypes := ts }) (hx : (Act.mk l.toArray []).eval x = .func (.func g) #[] lb) (hv : as.toList.map (Act.mk l.toArray []).eval = vs) (he : enters P g = true)
    (hw : Region.wanted o (yielded ops l.toArray) = true) (hd : o.dst = some d) (hc : Calls P g (vs.toArray ++ lb) w R)
    (h : ∀ e w', R e w' → ∃ v, e = .returned v ∧ S w' ∧ Ws P ops Q S π (l.set d v) w') : Ws P ops Q S (.cons (i, true) π) l w :=
  ⟨Go.Proofs.YtdlcldaogcbnlaaDoor.scv hi ho hx hv he hw hd hc (fun e w' hR => let ⟨v, h1, h2, h3⟩ := h e w' hR; ⟨v, h1, h2, h3.out⟩)⟩
theorem W.sn {i : Nat} {π : Sch} {l : List Value} {w : World} {o : Oper} {d : Tmp} (mk : Nat → Value) (cs : Array Value) (t : TypeId) (hS : SG W row w) (hi : ops[i]? = some o) (hw : Region.wanted o (yielded ops l.toArray) = true) (hd : o.dst = some d)
    (hr : ∀ w, (execOp (Act.mk l.toArray []).eval o).run P w = .ok (.value (mk w.heap.size)) (w.alloc (.cells cs t (0, 0))))
    (h : ∀ b w', w.heap.size = b → Below w.heap.size w w' → w'.heap[b]? = some (.cells cs t (0, 0)) → SG W row w' → Ws P ops Q (SG W row) π (l.set d (mk b)) w') : Ws P ops Q (SG W row) (.cons (i, true) π) l w :=
  ⟨Go.Proofs.YtdlcldaogcbnlaaDoor.sn mk cs t hS hi hw hd hr (fun b w' a1 a2 a3 a4 => (h b w' a1 a2 a3 a4).out)⟩
theorem W.ss {i : Nat} {π : Sch} {l : List Value} {w : World} {o : Oper} {ty t : TypeId} {x y : Operand} {b j : Nat} {v : Value} {news : List Value} {cs cs' : Array Value} (hS : SG W row w) (hi : ops[i]? = some o) (hw : Region.wanted o (yielded ops l.toArray) = true) (hd : o.dst = none)
    (ho : o.op = .store ty x y) (hx : (Act.mk l.toArray []).eval x = .pointer (some ⟨b, j, none⟩)) (hy : (Act.mk l.toArray []).eval y = v) (hxb : w.heap[b]? = some (.cells cs t (0, 0))) (hv : v.cells.toList = news) (hs : sizeB P ty = some news.length)
    (hf : j + news.length ≤ cs.size) (h1 : news.all (·.oneCell') = true) (hcs : (cs.toList.take j ++ news ++ cs.toList.drop (j + news.length)).toArray = cs') (hrow : some b = row ∨ W.heap.size ≤ b)
    (h : ∀ w', w.grownBy w' (some b) → w'.heap[b]? = some (.cells cs' t (0, 0)) → SG W row w' → Ws P ops Q (SG W row) π l w') : Ws P ops Q (SG W row) (.cons (i, true) π) l w :=
  ⟨Go.Proofs.YtdlcldaogcbnlaaDoor.ss hS hi hw hd ho hx hy hxb hv hs hf h1 hcs hrow (fun w' a1 a2 a3 => (h w' a1 a2 a3).out)⟩
theorem W.sap {i : Nat} {π : Sch} {l : List Value} {w : World} {o : Oper} {d : Tmp} {t e t' : TypeId} {s x : Operand} {v : Value} {base size n m b c : Nat} {xs : List Value} {cs : Array Value} (hS : SG W row w) (hi : ops[i]? = some o) (hg : o.guard = none) (hd : o.dst = some d)
    (ho : o.op = .call { callee := .builtin .append, args := #[s, x], argTypes := #[t, t] }) (hs : (Act.mk l.toArray []).eval s = v) (hx : (Act.mk l.toArray []).eval x = .slice (some ⟨b, 0, none⟩) m c) (hT : elT P t e size = true)
    (how : w.ownsRow base e size v n xs) (hxb : w.heap[b]? = some (.cells cs t' (0, 0))) (hl : cs.size = m * size) (h1 : cs.toList.all (·.oneCell') = true) (hm : 0 < m) (hn : n + m ≤ 1000000000) (hb : base ≤ w.heap.size) (hrow : v.ownBlock = row ∨ ∀ k, v.ownBlock = some k → W.heap.size ≤ k)
    (h : ∀ g cap w', w'.ownsRow base e size (.slice (some ⟨g, 0, none⟩) (n + m) cap) (n + m) (xs ++ cs.toList) → w.grownBy w' v.ownBlock → (v.ownBlock = some g ∨ g = w.heap.size) → g < w'.heap.size → SG W row w' →
      Ws P ops Q (SG W row) π (l.set d (.slice (some ⟨g, 0, none⟩) (n + m) cap)) w') : Ws P ops Q (SG W row) (.cons (i, true) π) l w :=
  ⟨Go.Proofs.YtdlcldaogcbnlaaDoor.sap hS hi hg hd ho hs hx hT how hxb hl h1 hm hn hb hrow (fun g cap w' a1 a2 a3 a4 a5 => (h g cap w' a1 a2 a3 a4 a5).out)⟩
theorem W.ssr {i : Nat} {π : Sch} {l : List Value} {w : World} {o : Oper} {ty e : TypeId} {x y : Operand} {base g j n c : Nat} {u : Value} {xs : List Value} (hS : SG W row w) (hi : ops[i]? = some o) (hw : Region.wanted o (yielded ops l.toArray) = true) (hd : o.dst = none)
    (ho : o.op = .store ty x y) (hx : (Act.mk l.toArray []).eval x = .pointer (some ⟨g, j, none⟩)) (hy : (Act.mk l.toArray []).eval y = u) (how : w.ownsRow base e 1 (.slice (some ⟨g, 0, none⟩) n c) n xs) (hs : sizeB P ty = some 1)
    (h1 : u.cells = #[u]) (h2 : u.oneCell' = true) (hj : j < n) (hrow : some g = row ∨ W.heap.size ≤ g)
    (h : ∀ w', w'.ownsRow base e 1 (.slice (some ⟨g, 0, none⟩) n c) n (xs.set j u) → w.grownBy w' (some g) → SG W row w' → Ws P ops Q (SG W row) π l w') : Ws P ops Q (SG W row) (.cons (i, true) π) l w :=
  ⟨Go.Proofs.YtdlcldaogcbnlaaDoor.ssr hS hi hw hd ho hx hy how hs h1 h2 hj hrow (fun w' a1 a2 a3 => (h w' a1 a2 a3).out)⟩
theorem W.sapQ {i : Nat} {π : Sch} {l : List Value} {w : World} {o : Oper} {d : Tmp} {t e t' : TypeId} {s x : Operand} {A : Option Addr} {base n c b c' : Nat} {zs : List Int} {z : Int} (hS : SG W row w) (hi : ops[i]? = some o) (hg : o.guard = none) (hd : o.dst = some d)
    (ho : o.op = .call { callee := .builtin .append, args := #[s, x], argTypes := #[t, t] }) (hs : (Act.mk l.toArray []).eval s = .slice A n c) (hx : (Act.mk l.toArray []).eval x = .slice (some ⟨b, 0, none⟩) 1 c') (hT : elT P t e 1 = true)
    (hq : QRow w base A n c zs) (hxb : w.heap[b]? = some (.cells #[.int .i64 z] t' (0, 0))) (hn : n ≤ 1000000000) (hb : base ≤ w.heap.size) (hrow : (Value.slice A n c).ownBlock = row ∨ ∀ k, (Value.slice A n c).ownBlock = some k → W.heap.size ≤ k)
    (h : ∀ A' c'' w', QRow w' base A' (n + 1) c'' (zs ++ [z]) → w.grownBy w' (Value.slice A n c).ownBlock → ((Value.slice A' (n + 1) c'').ownBlock = (Value.slice A n c).ownBlock ∨ ∀ k, (Value.slice A' (n + 1) c'').ownBlock = some k → w.heap.size ≤ k) → SG W row w' →
      Ws P ops Q (SG W row) π (l.set d (.slice A' (n + 1) c'')) w') : Ws P ops Q (SG W row) (.cons (i, true) π) l w :=
  ⟨Go.Proofs.YtdlcldaogcbnlaaDoor.sapQ hS hi hg hd ho hs hx hT hq hxb hn hb hrow (fun A' c'' w' a1 a2 a3 a4 => (h A' c'' w' a1 a2 a3 a4).out)⟩
theorem W.sapR {i : Nat} {π : Sch} {l : List Value} {w : World} {o : Oper} {d : Tmp} {t e : TypeId} {s x : Operand} {v : Value} {base size n m c : Nat} {A : Option Addr} {xs news : List Value} (hS : SG W row w) (hi : ops[i]? = some o) (hg : o.guard = none) (hd : o.dst = some d)
    (ho : o.op = .call { callee := .builtin .append, args := #[s, x], argTypes := #[t, t] }) (hs : (Act.mk l.toArray []).eval s = v) (hx : (Act.mk l.toArray []).eval x = .slice A m c) (hT : elT P t e size = true)
    (how : w.ownsRow base e size v n xs) (hrd : Rd w size A m news) (hf : Fm A m c) (h1 : ∀ u ∈ news, u.oneCell' = true) (hn : n + m ≤ 1000000000) (hb : base ≤ w.heap.size) (hrow : v.ownBlock = row ∨ ∀ k, v.ownBlock = some k → W.heap.size ≤ k)
    (h : ∀ A' c' w', w'.ownsRow base e size (.slice A' (n + m) c') (n + m) (xs ++ news) → w.grownBy w' v.ownBlock → ((Value.slice A' (n + m) c').ownBlock = v.ownBlock ∨ (Value.slice A' (n + m) c').ownBlock = some w.heap.size) → SG W row w' →
      Ws P ops Q (SG W row) π (l.set d (.slice A' (n + m) c')) w') : Ws P ops Q (SG W row) (.cons (i, true) π) l w :=
  ⟨Go.Proofs.YtdlcldaogcbnlaaDoor.sapR hS hi hg hd ho hs hx hT how hrd hf h1 hn hb hrow (fun A' c'' w' a1 a2 a3 a4 => (h A' c'' w' a1 a2 a3 a4).out)⟩
theorem W.slq {i : Nat} {π : Sch} {l : List Value} {w : World} {o : Oper} {d : Tmp} {v : Value} (hS : S w) (hi : ops[i]? = some o) (hr : ∀ w', w' = w → (execOp (Act.mk l.toArray []).eval o).run P w' = .ok (.value v) w')
    (hw : Region.wanted o (yielded ops l.toArray) = true) (hd : o.dst = some d) (h : Ws P ops Q S π (l.set d v) w) : Ws P ops Q S (.cons (i, true) π) l w :=
  ⟨Go.Proofs.YtdlcldaogcbnlaaDoor.slq hS hi hr hw hd h.out⟩
theorem W.sm {i : Nat} {π : Sch} {l : List Value} {w : World} {o : Oper} {d : Tmp} {t e : TypeId} {x y : Operand} {n : Nat} (base : Nat) (hS : SG W row w) (hi : ops[i]? = some o) (hw : Region.wanted o (yielded ops l.toArray) = true) (hd : o.dst = some d)
    (ho : o.op = .makeSlice t x y) (hx : (Act.mk l.toArray []).eval x = .int .i64 (n : Int)) (hy : (Act.mk l.toArray []).eval y = .int .i64 (n : Int)) (hT : elT P t e 1 = true) (hz : ∃ i0, P.info? e = some i0 ∧ i0.zero = some (.int .i64 0)) (hn : n ≤ 1000000) (hb : base ≤ w.heap.size)
    (h : ∀ b w', w.heap.size = b → Below w.heap.size w w' → w'.ownsRow base e 1 (.slice (some ⟨b, 0, none⟩) n n) n (intsV (List.replicate n 0)) → SG W row w' → Ws P ops Q (SG W row) π (l.set d (.slice (some ⟨b, 0, none⟩) n n)) w') :
    Ws P ops Q (SG W row) (.cons (i, true) π) l w :=
  ⟨Go.Proofs.YtdlcldaogcbnlaaDoor.sm base hS hi hw hd ho hx hy hT hz hn hb (fun b w' a1 a2 a3 a4 => (h b w' a1 a2 a3 a4).out)⟩
end

end Go.Proofs.YtdlcldaogcbnlaaDoor
