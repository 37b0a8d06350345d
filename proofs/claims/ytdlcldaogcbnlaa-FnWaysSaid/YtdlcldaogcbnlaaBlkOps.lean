/- Blocks that are known whole: copy, an append within the room, an append of zeros, clear. No program is named here. -/
import Derived.Test.YtdlcldaogcbnlaaWa
import Derived.Test.YtdlcldaogcbnlaaSm
import Derived.Laws.IdiomCopy
import Derived.Laws.CopyOwn
import Derived.Lib.AppendZerosOnto
import Derived.Lib.SliceRun
namespace Go.Proofs.Ytdlcldaogcbnlaa
open Go.RowKit
set_option linter.unusedVariables false

theorem ob_same {A : Option Addr} {n c n' c' : Nat} : (Value.slice A n c).ownBlock = (Value.slice A n' c').ownBlock := by cases A <;> rfl
section
variable {P : Program}
theorem run_copy_blk (w : World) (dT sT ty elem : TypeId) (g off dLen dCap : Nat) (a : Addr) (sLen sCap size : Nat) (cs : List Value) (cur : Array Value) (E : TypeId)
    (hu : P.underlying dT = some (.slice elem)) (hs : (P.info? elem).map (·.size) = some size) (hn : cs.length = Nat.min sLen dLen * size)
    (hsrc : ∀ j v, cs[j]? = some v → w.cell? (a.add j) = some v) (hg : w.heap[g]? = some (.cells cur E (0, 0))) (hfit : off + cs.length ≤ cur.size) (h1 : ∀ v ∈ cs, v.oneCell' = true) :
    (Builtin.copy_ #[dT, sT] ty #[.slice (some ⟨g, off, none⟩) dLen dCap, .slice (some a) sLen sCap]).run P w = .ok (goInt (Nat.min sLen dLen)) (w.setRow g (cur.toList.take off ++ cs ++ cur.toList.drop (off + cs.length)).toArray) := by
  have hl := run_loadCells_list (P := P) w a cs hsrc
  have hst := run_storeCells_at P g off E cs 0 cur w hg (by simpa using hfit) h1
  simp only [Nat.add_zero] at hst
  cases hq : P.info? elem with
  | none => simp [hq] at hs
  | some i =>
    have hi : i.size = size := by simpa [hq] using hs
    simp [Builtin.copy_, run_underlying hu, Builtin.lenOf, Builtin.firstCells, sizeOf, typeInfo, hq, hi, ← hn, hl, hst]
theorem run_clear_blk (w : World) (t e ty : TypeId) (zs : List Value) (z : Value) (ht : P.underlying t = some (.slice e)) (hv : ∀ w, (zeroValue e).run P w = .ok z w) (g off n c : Nat) (hn : 0 < n) (hz : (Builtin.zeroCells z.cells n).toList = zs) (h1 : ∀ v ∈ zs, v.oneCell' = true)
    (cur : Array Value) (E : TypeId) (hg : w.heap[g]? = some (.cells cur E (0, 0))) (hfit : off + zs.length ≤ cur.size) :
    (Builtin.clear_ #[t] ty #[.slice (some ⟨g, off, none⟩) n c]).run P w = .ok (.tuple #[]) (w.setRow g (cur.toList.take off ++ zs ++ cur.toList.drop (off + zs.length)).toArray) := by
  have hst := run_storeCells_at P g off E zs 0 cur w hg (by simpa using hfit) h1
  simp only [Nat.add_zero] at hst
  obtain ⟨m, rfl⟩ : ∃ m, n = m + 1 := ⟨n - 1, by omega⟩
  simp [Builtin.clear_, run_underlying ht, hv, hz, hst]
theorem run_append_room_blk (w : World) (t ty e : TypeId) (i : TypeInfo) (ht : P.underlying t = some (.slice e)) (hi : P.info? e = some i)
    (g sLen sCap : Nat) (a : Addr) (m c size : Nat) (news : List Value) (hsz : i.size = size) (hl : news.length = m * size) (hnews : ∀ j u, news[j]? = some u → w.cell? (a.add j) = some u) (h1 : ∀ u ∈ news, u.oneCell' = true)
    (hroom : sLen + m ≤ sCap) (cur : Array Value) (E : TypeId) (hg : w.heap[g]? = some (.cells cur E (0, 0))) (hfit : sLen * size + news.length ≤ cur.size) :
    (Builtin.append_ #[t, t] ty #[.slice (some ⟨g, 0, none⟩) sLen sCap, .slice (some a) m c]).run P w = .ok (.slice (some ⟨g, 0, none⟩) (sLen + m) sCap) (w.setRow g (cur.toList.take (sLen * size) ++ news ++ cur.toList.drop (sLen * size + news.length)).toArray) := by
  subst hsz
  have hfc := run_firstCells_some (P := P) w i.size m a m c news hl hnews
  have hst := run_storeCells_at P g (sLen * i.size) E news 0 cur w hg (by simpa using hfit) h1
  simp only [Nat.add_zero] at hst
  simp [Builtin.append_, run_underlying ht, sizeOf, typeInfo, hi, Builtin.lenOf, hroom, hfc, Addr.add_lit, hst]
/-- A row's block behind a change of some of its cells: who owned it owns it. -/
theorem grown_row {w : World} {g : Nat} {cs : Array Value} : w.grownBy (w.setRow g cs) (some g) := ⟨rfl, rfl, rfl, by simp [World.setRow], fun k _ hk => setRow_other w g k _ (fun e => hk (by rw [e]))⟩
theorem own_open {w : World} {base : Nat} {e : TypeId} {size n c : Nat} {A : Option Addr} {xs : List Value} (h : w.ownsRow base e size (.slice A n c) n xs) (hn : 0 < n) :
    ∃ g cur, A = some ⟨g, 0, none⟩ ∧ base ≤ g ∧ w.heap[g]? = some (.cells cur e (0, 0)) ∧ n ≤ c ∧ c ≤ maxLen ∧ cur.size = c * size ∧ cur.toList.take (n * size) = xs := by
  rcases h.2 with ⟨_, h0⟩ | ⟨g, cap, cur, hv, hb, hh, hnc, hm, hs, ht⟩
  · omega
  · simp only [Value.slice.injEq] at hv
    obtain ⟨rfl, _, rfl⟩ := hv
    exact ⟨g, cur, rfl, hb, hh, hnc, hm, hs, ht⟩
theorem own_shut {w : World} {base : Nat} {e : TypeId} {size n c g : Nat} {cur : Array Value} {xs : List Value} (hb : base ≤ g) (hh : w.heap[g]? = some (.cells cur e (0, 0))) (hnc : n ≤ c) (hm : c ≤ maxLen) (hs : cur.size = c * size) (ht : cur.toList.take (n * size) = xs) (hl : xs.length = n * size) :
    w.ownsRow base e size (.slice (some ⟨g, 0, none⟩) n c) n xs := ⟨hl, .inr ⟨g, c, cur, rfl, hb, hh, hnc, hm, hs, ht⟩⟩
end
section
variable {P : Program} {S : World → Prop} {o : Oper} {a : Act}
theorem r_sliceLH {t : TypeId} {x y z : Operand} {A : Option Addr} {n c lo hi size : Nat} (ho : o.op = .slice t x (some y) (some z) none) (hx : a.eval x = .slice A n c) (hy : a.eval y = .int .i64 (lo : Int)) (hz : a.eval z = .int .i64 (hi : Int)) (ht : elSz P t = some size) (h1 : lo ≤ hi) (h2 : hi ≤ c) :
    ∀ w, S w → (execOp a.eval o).run P w = .ok (.value (.slice (sFrom A c lo size) (hi - lo) (c - lo))) w := fun w _ => by
  obtain ⟨e, hu, hs⟩ := elSz_of ht
  have h0 : (0 : Int) ≤ (lo : Int) ∧ (lo : Int) ≤ (hi : Int) ∧ (hi : Int) ≤ (c : Int) ∧ (0 : Int) ≤ (hi : Int) := by omega
  simp [execOp, ho, hx, hy, hz, Instr.sliceAt, Instr.slice, Instr.sliceBounds, Instr.sliceBound, asIntOf, underlying, hu, run_sizeOf hs, h0, sFrom, h1, h2]
theorem r_sliceLHe {t : TypeId} {x y z : Operand} {A A2 : Option Addr} {n c lo hi size k2 c2 : Nat} (ho : o.op = .slice t x (some y) (some z) none) (hx : a.eval x = .slice A n c) (hy : a.eval y = .int .i64 (lo : Int)) (hz : a.eval z = .int .i64 (hi : Int)) (ht : elSz P t = some size) (h1 : lo ≤ hi) (h2 : hi ≤ c) (e1 : sFrom A c lo size = A2) (e2 : hi - lo = k2) (e3 : c - lo = c2) :
    ∀ w, S w → (execOp a.eval o).run P w = .ok (.value (.slice A2 k2 c2)) w := by
  subst e1 e2 e3
  exact r_sliceLH ho hx hy hz ht h1 h2
theorem r_slice3 {t : TypeId} {x y z u : Operand} {A : Option Addr} {n c lo hi mx size : Nat} (ho : o.op = .slice t x (some y) (some z) (some u)) (hx : a.eval x = .slice A n c) (hy : a.eval y = .int .i64 (lo : Int)) (hz : a.eval z = .int .i64 (hi : Int)) (hu9 : a.eval u = .int .i64 (mx : Int)) (ht : elSz P t = some size) (h1 : lo ≤ hi) (h2 : hi ≤ mx) (h3 : mx ≤ c) :
    ∀ w, S w → (execOp a.eval o).run P w = .ok (.value (.slice (sFrom A mx lo size) (hi - lo) (mx - lo))) w := fun w _ => by
  obtain ⟨e, hu, hs⟩ := elSz_of ht
  have h0 : (0 : Int) ≤ (lo : Int) ∧ (lo : Int) ≤ (hi : Int) ∧ (hi : Int) ≤ (mx : Int) ∧ (mx : Int) ≤ (c : Int) ∧ (0 : Int) ≤ (hi : Int) ∧ (0 : Int) ≤ (mx : Int) := by omega
  simp [execOp, ho, hx, hy, hz, hu9, Instr.sliceAt, Instr.slice, Instr.sliceBounds, Instr.sliceBound, asIntOf, underlying, hu, run_sizeOf hs, h0, sFrom, h1, h2, h3]
end
section
variable {P : Program} {ops : Array Oper} {Q : Exit → Act → World → Prop} {W : World} {row : Option Nat}
/-- A loud step with a value, by its run. -/
theorem lv {i : Nat} {π : Sch} {l : List Value} {w w' : World} {o : Oper} {v : Value} {d : Tmp} (hi : ops[i]? = some o) (hw : Region.wanted o (yielded ops l.toArray) = true) (hd : o.dst = some d) (hr : (execOp (Act.mk l.toArray []).eval o).run P w = .ok (.value v) w') (hS : SG W row w')
    (h : wpSch P ops Q (SG W row) π ⟨(l.set d v).toArray, []⟩ w') : wpSch P ops Q (SG W row) (.cons (i, true) π) ⟨l.toArray, []⟩ w := by
  show wpOp P ops Q i _ _ w
  unfold wpOp
  simp only [hi, hw, if_true]
  left
  unfold Oper.wp
  rw [hr, Oper.upon_value]
  refine ⟨hS, ?_⟩
  rw [hd]; simpa [Act.put] using h
theorem lvn {i : Nat} {π : Sch} {l : List Value} {w w' : World} {o : Oper} {v : Value} (hi : ops[i]? = some o) (hw : Region.wanted o (yielded ops l.toArray) = true) (hd : o.dst = none) (hr : (execOp (Act.mk l.toArray []).eval o).run P w = .ok (.value v) w') (hS : SG W row w')
    (h : wpSch P ops Q (SG W row) π ⟨l.toArray, []⟩ w') : wpSch P ops Q (SG W row) (.cons (i, true) π) ⟨l.toArray, []⟩ w := by
  show wpOp P ops Q i _ _ w
  unfold wpOp
  simp only [hi, hw, if_true]
  left
  unfold Oper.wp
  rw [hr, Oper.upon_value]
  refine ⟨hS, ?_⟩
  rw [hd]; simpa [Act.put] using h
theorem W.lv {i : Nat} {π : Sch} {l : List Value} {w w' : World} {o : Oper} {v : Value} {d : Tmp} (hi : ops[i]? = some o) (hw : Region.wanted o (yielded ops l.toArray) = true) (hd : o.dst = some d) (hr : (execOp (Act.mk l.toArray []).eval o).run P w = .ok (.value v) w') (hS : SG W row w')
    (h : Ws P ops Q (SG W row) π (l.set d v) w') : Ws P ops Q (SG W row) (.cons (i, true) π) l w := ⟨Go.Proofs.Ytdlcldaogcbnlaa.lv hi hw hd hr hS h.out⟩
theorem W.lvn {i : Nat} {π : Sch} {l : List Value} {w w' : World} {o : Oper} {v : Value} (hi : ops[i]? = some o) (hw : Region.wanted o (yielded ops l.toArray) = true) (hd : o.dst = none) (hr : (execOp (Act.mk l.toArray []).eval o).run P w = .ok (.value v) w') (hS : SG W row w')
    (h : Ws P ops Q (SG W row) π l w') : Ws P ops Q (SG W row) (.cons (i, true) π) l w := ⟨Go.Proofs.Ytdlcldaogcbnlaa.lvn hi hw hd hr hS h.out⟩
/-- The runs of calls of builtins. -/
theorem run_copyOp {l : List Value} {w w' : World} {o : Oper} {d s : Operand} {dT sT : TypeId} {x y v : Value} (ho : o.op = .call { callee := .builtin .copy, args := #[d, s], argTypes := #[dT, sT] }) (hx : (Act.mk l.toArray []).eval d = x) (hy : (Act.mk l.toArray []).eval s = y)
    (hr : (Builtin.copy_ #[dT, sT] o.type #[x, y]).run P w = .ok v w') : (execOp (Act.mk l.toArray []).eval o).run P w = .ok (.value v) w' := by
  simp [execOp, ho, resolve, invoke, builtin, hx, hy, hr, Result.andThen]
theorem run_appendOp {l : List Value} {w w' : World} {o : Oper} {d s : Operand} {dT sT : TypeId} {x y v : Value} (ho : o.op = .call { callee := .builtin .append, args := #[d, s], argTypes := #[dT, sT] }) (hx : (Act.mk l.toArray []).eval d = x) (hy : (Act.mk l.toArray []).eval s = y)
    (hr : (Builtin.append_ #[dT, sT] o.type #[x, y]).run P w = .ok v w') : (execOp (Act.mk l.toArray []).eval o).run P w = .ok (.value v) w' := by
  simp [execOp, ho, resolve, invoke, builtin, hx, hy, hr, Result.andThen]
theorem run_clearOp {l : List Value} {w w' : World} {o : Oper} {d : Operand} {dT : TypeId} {x v : Value} (ho : o.op = .call { callee := .builtin .clear, args := #[d], argTypes := #[dT] }) (hx : (Act.mk l.toArray []).eval d = x)
    (hr : (Builtin.clear_ #[dT] o.type #[x]).run P w = .ok v w') : (execOp (Act.mk l.toArray []).eval o).run P w = .ok (.value v) w' := by
  simp [execOp, ho, resolve, invoke, builtin, hx, hr, Result.andThen]
end

end Go.Proofs.Ytdlcldaogcbnlaa
