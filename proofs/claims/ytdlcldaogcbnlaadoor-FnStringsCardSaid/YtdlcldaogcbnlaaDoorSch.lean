/- Regions that draw their order, walked by a schedule: what only yields is taken first, what acts comes alone. No program is named here. -/
import Derived.Test.YtdlcldaogcbnlaaDoorRow
import Derived.OrdersHeld
import Derived.Deep.LoopGhost
namespace Go.Proofs.YtdlcldaogcbnlaaDoor
open Go.RowKit
set_option linter.unusedVariables false

theorem get_of {α : Type} {zs : List α} {k : Nat} (h : k < zs.length) : ∃ x, zs[k]? = some x := ⟨_, List.getElem?_eq_getElem h⟩
/-- Worlds that keep all of W but one block. -/
def SG (W : World) (row : Option Nat) (w : World) : Prop := W.grownBy w row
theorem SG.cell {W w : World} {row : Option Nat} (h : SG W row w) {a : Addr} {v : Value} (hc : W.cell? a = some v) (hne : some a.block ≠ row) : w.cell? a = some v := World.grownBy.cell h hc hne
theorem SG.belowR {W w w0 : World} {row : Option Nat} (c : Below w0.heap.size w0 W) (h : SG W row w) (hr : ∀ k, row = some k → w0.heap.size ≤ k) : Below w0.heap.size w0 w :=
  ⟨h.os.trans c.os, h.tape.trans c.tape, h.output.trans c.output, Nat.le_trans c.size h.size, fun k hk => (h.block k (Nat.lt_of_lt_of_le hk c.size) (fun e => by have := hr k e.symm; omega)).trans (c.block k hk)⟩
theorem own_heap {w w' : World} {base : Nat} {e : TypeId} {size n : Nat} {v : Value} {xs : List Value} (h : w.ownsRow base e size v n xs) (e' : w'.heap = w.heap) : w'.ownsRow base e size v n xs := by
  unfold World.ownsRow at h ⊢; rw [e']; exact h
theorem SG.self (W : World) (row : Option Nat) : SG W row W := World.grownBy.refl _ _
theorem SG.below {W w : World} (h : SG W none w) : Below W.heap.size W w := (Below.refl _ _).grown h (Nat.le_refl _) (by simp)
theorem SG.of_below {W w w' : World} {row : Option Nat} (h : SG W row w) (b : Below w.heap.size w w') : SG W row w' :=
  ⟨b.os.trans h.os, b.tape.trans h.tape, b.output.trans h.output, Nat.le_trans h.size b.size, fun k hk hn => (b.block k (Nat.lt_of_lt_of_le hk h.size)).trans (h.block k hk hn)⟩
theorem SG.of_grown {W w w' : World} {row : Option Nat} (h : SG W row w) {r : Option Nat} (b : w.grownBy w' r) (hr : r = row ∨ ∀ k, r = some k → W.heap.size ≤ k) : SG W row w' :=
  ⟨b.os.trans h.os, b.tape.trans h.tape, b.output.trans h.output, Nat.le_trans h.size b.size, fun k hk hn => (b.block k (Nat.lt_of_lt_of_le hk h.size) (fun e => by
    rcases hr with hr | hr
    · exact hn (e.trans hr)
    · have := hr k e.symm; omega)).trans (h.block k hk hn)⟩

section
variable {P : Program} {ops : Array Oper} {Q : Exit → Act → World → Prop} {S : World → Prop}

/-- An order of a region's operations: what only yields (false), what acts (true); where two acts may come up, both orders. -/
inductive Sch where
  | nil
  | cons (x : Nat × Bool) (s : Sch)
  | br (i j : Nat) (s t : Sch)
  | br3 (i j k : Nat) (s t u : Sch)
def Sch.app : List (Nat × Bool) → Sch → Sch
  | [], s => s
  | x :: l, s => .cons x (Sch.app l s)
def Sch.of (l : List (Nat × Bool)) : Sch := Sch.app l .nil
def schOk (md : Region.Mode) (ops : Array Oper) : Nat → Sch → Array Bool → Bool
  | _, .nil, listed => (Region.ready md ops listed).isEmpty
  | fuel + 1, .cons (i, false) π, listed => (Region.ready md ops listed).contains i && (Region.free md ops listed i && schOk md ops fuel π (listed.setIfInBounds i true))
  | fuel + 1, .cons (i, true) π, listed => (Region.ready md ops listed == [i]) && schOk md ops fuel π (listed.setIfInBounds i true)
  | fuel + 1, .br i j s t, listed => (Region.ready md ops listed == [i, j]) && (schOk md ops fuel s (listed.setIfInBounds i true) && schOk md ops fuel t (listed.setIfInBounds j true))
  | fuel + 1, .br3 i j k s t u, listed => (Region.ready md ops listed == [i, j, k]) && (schOk md ops fuel s (listed.setIfInBounds i true) && (schOk md ops fuel t (listed.setIfInBounds j true) && schOk md ops fuel u (listed.setIfInBounds k true)))
  | 0, _, _ => false
/-- The walk of a schedule. -/
def wpSch (P : Program) (ops : Array Oper) (Q : Exit → Act → World → Prop) (S : World → Prop) : Sch → Act → World → Prop
  | .nil, a, w => Q .normal a w
  | .cons (i, false) π, a, w => ∃ o v, ops[i]? = some o ∧ YieldsIf P ops S o v a ∧ wpSch P ops Q S π (a.put o.dst v) w
  | .cons (i, true) π, a, w => wpOp P ops Q i (fun a' w' => S w' ∧ wpSch P ops Q S π a' w') a w
  | .br i j s t, a, w => wpOp P ops Q i (fun a' w' => S w' ∧ wpSch P ops Q S s a' w') a w ∧ wpOp P ops Q j (fun a' w' => S w' ∧ wpSch P ops Q S t a' w') a w
  | .br3 i j k s t u, a, w => wpOp P ops Q i (fun a' w' => S w' ∧ wpSch P ops Q S s a' w') a w ∧ wpOp P ops Q j (fun a' w' => S w' ∧ wpSch P ops Q S t a' w') a w ∧ wpOp P ops Q k (fun a' w' => S w' ∧ wpSch P ops Q S u a' w') a w
theorem sbr3 {i j k : Nat} {s t u : Sch} {a : Act} {w : World} (h1 : wpSch P ops Q S (.cons (i, true) s) a w) (h2 : wpSch P ops Q S (.cons (j, true) t) a w) (h3 : wpSch P ops Q S (.cons (k, true) u) a w) : wpSch P ops Q S (.br3 i j k s t u) a w := ⟨h1, h2, h3⟩
theorem sbr {i j : Nat} {s t : Sch} {a : Act} {w : World} (h1 : wpSch P ops Q S (.cons (i, true) s) a w) (h2 : wpSch P ops Q S (.cons (j, true) t) a w) : wpSch P ops Q S (.br i j s t) a w := ⟨h1, h2⟩
theorem anyH_of_sch (hs : Region.noSelect ops = true) (hQ : ∀ c d v a w, Q (.panic c) (Act.put a d v) w → Q (.panic c) a w) :
    ∀ (fuel : Nat) (π : Sch) (listed : Array Bool) (a : Act) (w : World), schOk .any ops fuel π listed = true → S w → wpSch P ops Q S π a w → wpAnyH P .any ops Q S fuel listed a w
  | fuel, .nil, listed, a, w, hk, _, h => wpAnyH_done (by cases fuel <;> simpa [schOk] using hk) h fuel
  | fuel + 1, .cons (i, false) π, listed, a, w, hk, hS, h => by
    obtain ⟨o, v, ho, hy, h⟩ := h
    simp only [schOk, Bool.and_eq_true] at hk
    exact wpAnyH_take ho hs hk.2.1 hk.1 (fun c a w => hQ c _ _ a w) hy hS (anyH_of_sch hs hQ fuel π _ _ w hk.2.2 hS h)
  | fuel + 1, .cons (i, true) π, listed, a, w, hk, hS, h => by
    simp only [schOk, Bool.and_eq_true, beq_iff_eq] at hk
    refine wpAnyH_all hk.1 (by simp) (fun j hj => ?_)
    obtain rfl : j = i := by simpa using hj
    exact wpOp_mono (fun a' w' h' => ⟨h'.1, anyH_of_sch hs hQ fuel π _ a' w' hk.2 h'.1 h'.2⟩) h
  | fuel + 1, .br i j s t, listed, a, w, hk, hS, h => by
    simp only [schOk, Bool.and_eq_true, beq_iff_eq] at hk
    refine wpAnyH_all hk.1 (by simp) (fun m hm => ?_)
    simp only [List.mem_cons, List.not_mem_nil, or_false] at hm
    rcases hm with rfl | rfl
    · exact wpOp_mono (fun a' w' h' => ⟨h'.1, anyH_of_sch hs hQ fuel s _ a' w' hk.2.1 h'.1 h'.2⟩) h.1
    · exact wpOp_mono (fun a' w' h' => ⟨h'.1, anyH_of_sch hs hQ fuel t _ a' w' hk.2.2 h'.1 h'.2⟩) h.2
  | fuel + 1, .br3 i j k s t u, listed, a, w, hk, hS, h => by
    simp only [schOk, Bool.and_eq_true, beq_iff_eq] at hk
    refine wpAnyH_all hk.1 (by simp) (fun m hm => ?_)
    simp only [List.mem_cons, List.not_mem_nil, or_false] at hm
    rcases hm with rfl | rfl | rfl
    · exact wpOp_mono (fun a' w' h' => ⟨h'.1, anyH_of_sch hs hQ fuel s _ a' w' hk.2.1 h'.1 h'.2⟩) h.1
    · exact wpOp_mono (fun a' w' h' => ⟨h'.1, anyH_of_sch hs hQ fuel t _ a' w' hk.2.2.1 h'.1 h'.2⟩) h.2.1
    · exact wpOp_mono (fun a' w' h' => ⟨h'.1, anyH_of_sch hs hQ fuel u _ a' w' hk.2.2.2 h'.1 h'.2⟩) h.2.2
  | 0, .cons (i, false) π, listed, a, w, hk, _, _ => by simp [schOk] at hk
  | 0, .cons (i, true) π, listed, a, w, hk, _, _ => by simp [schOk] at hk
  | 0, .br i j s t, listed, a, w, hk, _, _ => by simp [schOk] at hk
  | 0, .br3 i j k s t u, listed, a, w, hk, _, _ => by simp [schOk] at hk
/-- A region that draws its order. -/
theorem region_sch {W : World} {row : Option Nat} {id : Nat} {a : Act} (π : Sch) (hm : P.follows .mixedOrders = true) (hs : Region.noSelect ops = true) (hQ : ∀ c d v a w, Q (.panic c) (Act.put a d v) w → Q (.panic c) a w)
    (hok : schOk .any ops ops.size π (Array.replicate ops.size false) = true) (h : ∀ w, w.heap = W.heap → SG W row w → wpSch P ops Q (SG W row) π a w) : (Code.region id ops true).wp P Q a W := by
  have hS : SG W row { W with drawn := W.drawn + 1 } := ⟨rfl, rfl, rfl, Nat.le_refl _, fun _ _ _ => rfl⟩
  exact wp_region_held hm (anyH_of_sch hs hQ _ π _ a _ hok hS (h _ rfl hS))
/-- A plain region, by the same walk. -/
theorem ops_of_sch : ∀ (π : List (Nat × Bool)) (a : Act) (w : World), S w → wpSch P ops Q S (Sch.of π) a w → wpOps P ops Q (π.map (·.1)) a w
  | [], a, w, _, h => h
  | (i, false) :: π, a, w, hS, h => by
    obtain ⟨o, v, ho, hy, h⟩ := h
    rw [List.map_cons, wpOps_cons]
    exact hy.wpOp ho hS (ops_of_sch π _ _ hS h)
  | (i, true) :: π, a, w, hS, h => by
    rw [List.map_cons, wpOps_cons]
    exact wpOp_mono (fun a' w' h' => ops_of_sch π a' w' h'.1 h'.2) h
theorem region_plain {W : World} {row : Option Nat} {id : Nat} {a : Act} (π : List (Nat × Bool)) (hn : π.map (·.1) = List.range ops.size) (h : wpSch P ops Q (SG W row) (Sch.of π) a W) : (Code.region id ops false).wp P Q a W := by
  have := ops_of_sch π a W (SG.self W row) h
  rw [hn] at this
  exact wp_region this
theorem region_quiet {W : World} {id : Nat} {a : Act} (π : List (Nat × Bool)) (hn : π.map (·.1) = List.range ops.size) (h : wpSch P ops Q (fun w => w = W) (Sch.of π) a W) : (Code.region id ops false).wp P Q a W := by
  have := ops_of_sch (S := fun w => w = W) π a W rfl h
  rw [hn] at this
  exact wp_region this
theorem eqS {W : World} {p : Addr} {v : Value} (h : W.cell? p = some v) : ∀ w, w = W → w.cell? p = some v := fun w e => e ▸ h
theorem sgS {W : World} {row : Option Nat} {p : Addr} {v : Value} (h : W.cell? p = some v) (hne : some p.block ≠ row) : ∀ w, SG W row w → w.cell? p = some v := fun w e => SG.cell e h hne
theorem SG.blk {W w : World} {row : Option Nat} (h : SG W row w) {b : Nat} {o : Obj} (hc : W.heap[b]? = some o) (hne : some b ≠ row) : w.heap[b]? = some o := by
  have hlt : b < W.heap.size := by
    rcases Nat.lt_or_ge b W.heap.size with h | h
    · exact h
    · rw [Array.getElem?_eq_none h] at hc; cases hc
  exact (h.block b hlt hne).trans hc
theorem blk_lt {W : World} {b : Nat} {o : Obj} (hc : W.heap[b]? = some o) : b < W.heap.size := by
  rcases Nat.lt_or_ge b W.heap.size with h | h
  · exact h
  · rw [Array.getElem?_eq_none h] at hc; cases hc
theorem blk_cell {W : World} {b j : Nat} {cs : Array Value} {t : TypeId} {v : Value} (h : W.heap[b]? = some (.cells cs t (0, 0))) (hv : cs[j]? = some v) : W.cell? ⟨b, j, none⟩ = some v := by
  rw [cell_of_row W b j cs t (0, 0) h]; exact hv
theorem sch_end {a : Act} {w : World} (h : Q .normal a w) : wpSch P ops Q S .nil a w := h
/-- One operation that yields. -/
theorem sq {i : Nat} {π : Sch} {l l' : List Value} {w : World} {o : Oper} {v : Value} {d : Tmp} (hi : ops[i]? = some o) (hr : ∀ w, S w → (execOp (Act.mk l.toArray []).eval o).run P w = .ok (.value v) w)
    (hw : Region.wanted o (yielded ops l.toArray) = true) (hd : o.dst = some d) (hl : l.set d v = l') (h : wpSch P ops Q S π ⟨l'.toArray, []⟩ w) : wpSch P ops Q S (.cons (i, false) π) ⟨l.toArray, []⟩ w := by
  subst hl
  refine ⟨o, v, hi, .inl ⟨hw, hr⟩, ?_⟩
  rw [hd]
  simpa [Act.put] using h
/-- One operation that is passed over. -/
theorem sk {i : Nat} {b : Bool} {π : Sch} {l l' : List Value} {w : World} {o : Oper} {d : Tmp} (hS : S w) (hi : ops[i]? = some o)
    (hw : Region.wanted o (yielded ops l.toArray) = false) (hd : o.dst = some d) (hl : l.set d undef = l') (h : wpSch P ops Q S π ⟨l'.toArray, []⟩ w) : wpSch P ops Q S (.cons (i, b) π) ⟨l.toArray, []⟩ w := by
  subst hl
  have h' : wpSch P ops Q S π ((⟨l.toArray, []⟩ : Act).put o.dst undef) w := by rw [hd]; simpa [Act.put] using h
  cases b
  · exact ⟨o, undef, hi, .inr ⟨hw, rfl⟩, h'⟩
  · show wpOp P ops Q i _ _ w
    unfold wpOp
    simp only [hi, hw]
    exact ⟨hS, h'⟩
/-- The function is one that is entered. -/
def enters (P : Program) (f : FuncId) : Bool := match P.funcs[f]? with | some fn => !(fn.name == "runtime.NumGoroutine") && !fn.body.isNone | none => false
theorem run_enter {o : Oper} {a : Act} {f : FuncId} {as : Array Operand} {ts : Array TypeId} {vs : List Value} (ho : o.op = .call { callee := .value (.func f), args := as, argTypes := ts }) (hv : as.toList.map a.eval = vs) (he : enters P f = true) (w : World) :
    (execOp a.eval o).run P w = .ok (.enter f vs.toArray) w := by
  unfold enters at he
  split at he
  · rename_i fn hf
    simp only [Bool.and_eq_true, Bool.not_eq_true'] at he
    have h1 : ¬ fn.name = "runtime.NumGoroutine" := by simpa using he.1
    have h2 : ¬ fn.body = none := fun e => by rw [e] at he; simp at he
    have hev : a.eval (.func f) = .func (.func f) #[] #[] := rfl
    have hv' : as.map a.eval = vs.toArray := Array.toList_inj.1 (by rw [Array.toList_map]; exact hv)
    simp [execOp, ho, resolve, hv', hev, Deferred.ofValue, invoke, callFunc, hf, h1, h2]
  · cases he
/-- A call, met by its contract. -/
theorem sc {i : Nat} {π : Sch} {l : List Value} {w : World} {o : Oper} {d : Tmp} {f : FuncId} {as : Array Operand} {ts : Array TypeId} {vs : List Value} {R : Ending → World → Prop} (hi : ops[i]? = some o)
    (ho : o.op = .call { callee := .value (.func f), args := as, argTypes := ts }) (hv : as.toList.map (Act.mk l.toArray []).eval = vs) (he : enters P f = true)
    (hw : Region.wanted o (yielded ops l.toArray) = true) (hd : o.dst = some d) (hc : Calls P f vs.toArray w R)
    (h : ∀ e w', R e w' → ∃ v, e = .returned v ∧ S w' ∧ wpSch P ops Q S π ⟨(l.set d v).toArray, []⟩ w') : wpSch P ops Q S (.cons (i, true) π) ⟨l.toArray, []⟩ w := by
  show wpOp P ops Q i _ _ w
  unfold wpOp
  simp only [hi, hw, if_true]
  left
  unfold Oper.wp
  rw [run_enter ho hv he, Oper.upon_enter]
  refine hc.mono (fun e w' hR => ?_)
  obtain ⟨v, rfl, h1, h2⟩ := h e w' hR
  refine ⟨h1, ?_⟩
  rw [hd]; simpa [Act.put] using h2
end

/-! ### what single operations yield -/
section
variable {P : Program} {S : World → Prop} {o : Oper} {a : Act}
theorem r_move {x : Operand} {v : Value} (ho : o.op = .move x) (hx : a.eval x = v) : ∀ w, S w → (execOp a.eval o).run P w = .ok (.value v) w := fun w _ => by subst hx; simp [execOp, ho]
theorem r_assign {x : Operand} {v : Value} (ho : o.op = .assign x) (hx : a.eval x = v) : ∀ w, S w → (execOp a.eval o).run P w = .ok (.value v) w := fun w _ => by subst hx; simp [execOp, ho]
def fldOff (P : Program) (s : TypeId) (f : Nat) : Option Nat := match P.underlying s with
  | some (.struct fs) => match fs[f]? with
    | some fd => match P.info? fd.type with
      | some i => if i.size = 0 then none else some fd.offset
      | none => none
    | none => none
  | _ => none
theorem r_field {s : TypeId} {x : Operand} {f b off k : Nat} (ho : o.op = .fieldAddr s x f) (hx : a.eval x = .pointer (some ⟨b, off, none⟩)) (hf : fldOff P s f = some k) :
    ∀ w, S w → (execOp a.eval o).run P w = .ok (.value (.pointer (some ⟨b, off + k, none⟩))) w := fun w _ => by
  unfold fldOff at hf
  split at hf <;> try cases hf
  rename_i fs hu
  split at hf <;> try cases hf
  rename_i fd hfd
  split at hf <;> try cases hf
  rename_i i hi
  split at hf <;> try cases hf
  rename_i hsz
  simp [execOp, ho, hx, Instr.fieldAt, underlying, hu, hfd, Instr.sureAddr, fieldPlace, sizeOf, typeInfo, hi, hsz, Addr.add_lit]

theorem r_field0 {s : TypeId} {x : Operand} {f b off : Nat} (ho : o.op = .fieldAddr s x f) (hx : a.eval x = .pointer (some ⟨b, off, none⟩)) (hf : fldOff P s f = some 0) :
    ∀ w, S w → (execOp a.eval o).run P w = .ok (.value (.pointer (some ⟨b, off, none⟩))) w := r_field (S := S) ho hx hf
/-- Is this a type whose values take several cells? -/
def aggB (P : Program) (t : TypeId) : Option Bool := match P.underlying t with
  | some (.struct _) => some true
  | some (.array _ _) => some true
  | some _ => some false
  | none => none
theorem run_isAgg {t : TypeId} {b : Bool} (h : aggB P t = some b) (w : World) : (isAgg t).run P w = .ok b w := by
  unfold aggB at h
  split at h <;> simp_all [isAgg, underlying]
theorem r_load {t : TypeId} {x : Operand} {p : Addr} {v : Value} (ho : o.op = .load t x) (hx : a.eval x = .pointer (some p)) (ht : aggB P t = some false) (hc : ∀ w, S w → w.cell? p = some v) :
    ∀ w, S w → (execOp a.eval o).run P w = .ok (.value v) w := fun w hS => by
  have h := hc w hS
  simp [execOp, ho, hx, Instr.loadAt, Instr.sureAddr, loadVar, run_isAgg ht, h]
def sizeB (P : Program) (t : TypeId) : Option Nat := (P.info? t).map (·.size)
theorem run_sizeOf {t : TypeId} {n : Nat} (h : sizeB P t = some n) (w : World) : (sizeOf t).run P w = .ok n w := by
  unfold sizeB at h
  obtain ⟨i, hi, rfl⟩ := Option.map_eq_some_iff.1 h
  simp [sizeOf, typeInfo, hi]
theorem r_loadA {t : TypeId} {x : Operand} {b off : Nat} {cs : List Value} (ho : o.op = .load t x) (hx : a.eval x = .pointer (some ⟨b, off, none⟩)) (ht : aggB P t = some true) (hs : sizeB P t = some cs.length)
    (hc : ∀ w, S w → ∀ j v, cs[j]? = some v → w.cell? ⟨b, off + j, none⟩ = some v) :
    ∀ w, S w → (execOp a.eval o).run P w = .ok (.value (.agg cs.toArray)) w := fun w hS => by
  have h := run_loadCells_list (P := P) (w := w) ⟨b, off, none⟩ cs (fun j v hv => by rw [Addr.add_lit]; exact hc w hS j v hv)
  simp [execOp, ho, hx, Instr.loadAt, Instr.sureAddr, loadVar, run_isAgg ht, run_sizeOf hs, h]
theorem r_load2 {t : TypeId} {x : Operand} {b off : Nat} {u0 u1 : Value} (ho : o.op = .load t x) (hx : a.eval x = .pointer (some ⟨b, off, none⟩)) (ht : aggB P t = some true) (hs : sizeB P t = some 2)
    (h0 : ∀ w, S w → w.cell? ⟨b, off, none⟩ = some u0) (h1 : ∀ w, S w → w.cell? ⟨b, off + 1, none⟩ = some u1) :
    ∀ w, S w → (execOp a.eval o).run P w = .ok (.value (.agg #[u0, u1])) w :=
  r_loadA (cs := [u0, u1]) ho hx ht hs (fun w hS j v hv => by
    rcases j with _ | _ | j <;> simp at hv <;> subst hv
    · exact h0 w hS
    · exact h1 w hS)
theorem r_load4 {t : TypeId} {x : Operand} {b off : Nat} {u0 u1 u2 u3 : Value} (ho : o.op = .load t x) (hx : a.eval x = .pointer (some ⟨b, off, none⟩)) (ht : aggB P t = some true) (hs : sizeB P t = some 4)
    (h0 : ∀ w, S w → w.cell? ⟨b, off, none⟩ = some u0) (h1 : ∀ w, S w → w.cell? ⟨b, off + 1, none⟩ = some u1) (h2 : ∀ w, S w → w.cell? ⟨b, off + 2, none⟩ = some u2) (h3 : ∀ w, S w → w.cell? ⟨b, off + 3, none⟩ = some u3) :
    ∀ w, S w → (execOp a.eval o).run P w = .ok (.value (.agg #[u0, u1, u2, u3])) w :=
  r_loadA (cs := [u0, u1, u2, u3]) ho hx ht hs (fun w hS j v hv => by
    rcases j with _ | _ | _ | _ | j <;> simp at hv <;> subst hv
    · exact h0 w hS
    · exact h1 w hS
    · exact h2 w hS
    · exact h3 w hS)
/-- How many cells an element of a slice's type takes. -/
def elSz (P : Program) (t : TypeId) : Option Nat := match P.underlying t with
  | some (.slice e) => sizeB P e
  | _ => none
theorem elSz_of {t : TypeId} {n : Nat} (h : elSz P t = some n) : ∃ e, P.underlying t = some (.slice e) ∧ sizeB P e = some n := by
  unfold elSz at h
  split at h
  · rename_i e he; exact ⟨e, he, h⟩
  · cases h
theorem r_idx {t : TypeId} {x i : Operand} {A : Option Addr} {b off n c k size : Nat} (ho : o.op = .indexAddr t x i) (hx : a.eval x = .slice A n c) (hA : A = some ⟨b, off, none⟩) (hi : a.eval i = .int .i64 (k : Int)) (ht : elSz P t = some size) (hk : k < n) :
    ∀ w, S w → (execOp a.eval o).run P w = .ok (.value (.pointer (some ⟨b, off + k * size, none⟩))) w := fun w _ => by
  have h0 : (0 : Int) ≤ (k : Int) ∧ (k : Int) < (n : Int) := by omega
  subst hA
  obtain ⟨e, hu, hs⟩ := elSz_of ht
  simp [execOp, ho, hx, hi, Instr.indexAt, asIntOf, underlying, hu, run_sizeOf hs, h0, Addr.add_lit]
  intro h; omega
theorem r_idx1 {t : TypeId} {x i : Operand} {A : Option Addr} {b off n c k : Nat} (ho : o.op = .indexAddr t x i) (hx : a.eval x = .slice A n c) (hA : A = some ⟨b, off, none⟩) (hi : a.eval i = .int .i64 (k : Int)) (ht : elSz P t = some 1) (hk : k < n) :
    ∀ w, S w → (execOp a.eval o).run P w = .ok (.value (.pointer (some ⟨b, off + k, none⟩))) w := by
  have := r_idx (S := S) ho hx hA hi ht hk
  rwa [Nat.mul_one] at this
theorem r_add {t u : TypeId} {x y : Operand} {m n z : Int} (ho : o.op = .binOp .add t x y u) (hx : a.eval x = .int .i64 m) (hy : a.eval y = .int .i64 n) (hz : m + n = z) (h0 : -9223372036854775808 ≤ z ∧ z ≤ 9223372036854775807) :
    ∀ w, S w → (execOp a.eval o).run P w = .ok (.value (.int .i64 z)) w := fun w _ => by
  have hw : IntKind.i64.wrap (m + n) = z := by rw [hz]; exact IntWalk.i64_in _ (by omega)
  simp [execOp, ho, hx, hy, eqGuard, binOp, Op.intArith, hw]
theorem r_sub {t u : TypeId} {x y : Operand} {m n z : Int} (ho : o.op = .binOp .sub t x y u) (hx : a.eval x = .int .i64 m) (hy : a.eval y = .int .i64 n) (hz : m - n = z) (h0 : -9223372036854775808 ≤ z ∧ z ≤ 9223372036854775807) :
    ∀ w, S w → (execOp a.eval o).run P w = .ok (.value (.int .i64 z)) w := fun w _ => by
  have hw : IntKind.i64.wrap (m - n) = z := by rw [hz]; exact IntWalk.i64_in _ (by omega)
  simp [execOp, ho, hx, hy, eqGuard, binOp, Op.intArith, hw]
theorem r_lss {t u : TypeId} {x y : Operand} {m n : Int} {r : Bool} (ho : o.op = .binOp .lss t x y u) (hx : a.eval x = .int .i64 m) (hy : a.eval y = .int .i64 n) (hr : decide (m < n) = r) :
    ∀ w, S w → (execOp a.eval o).run P w = .ok (.value (.bool r)) w := fun w _ => by
  subst hr
  simp [execOp, ho, hx, hy, eqGuard, binOp, Op.intCmp]
theorem r_leq {t u : TypeId} {x y : Operand} {m n : Int} {r : Bool} (ho : o.op = .binOp .leq t x y u) (hx : a.eval x = .int .i64 m) (hy : a.eval y = .int .i64 n) (hr : decide (m ≤ n) = r) :
    ∀ w, S w → (execOp a.eval o).run P w = .ok (.value (.bool r)) w := fun w _ => by
  subst hr
  simp [execOp, ho, hx, hy, eqGuard, binOp, Op.intCmp]
theorem r_gtr {t u : TypeId} {x y : Operand} {m n : Int} {r : Bool} (ho : o.op = .binOp .gtr t x y u) (hx : a.eval x = .int .i64 m) (hy : a.eval y = .int .i64 n) (hr : decide (m > n) = r) :
    ∀ w, S w → (execOp a.eval o).run P w = .ok (.value (.bool r)) w := fun w _ => by
  subst hr
  simp [execOp, ho, hx, hy, eqGuard, binOp, Op.intCmp]
theorem r_geq {t u : TypeId} {x y : Operand} {m n : Int} {r : Bool} (ho : o.op = .binOp .geq t x y u) (hx : a.eval x = .int .i64 m) (hy : a.eval y = .int .i64 n) (hr : decide (m ≥ n) = r) :
    ∀ w, S w → (execOp a.eval o).run P w = .ok (.value (.bool r)) w := fun w _ => by
  subst hr
  simp [execOp, ho, hx, hy, eqGuard, binOp, Op.intCmp]
theorem r_eql {t u : TypeId} {x y : Operand} {m n : Int} {r : Bool} (ho : o.op = .binOp .eql t x y u) (hx : a.eval x = .int .i64 m) (hy : a.eval y = .int .i64 n) (hr : decide (m = n) = r) :
    ∀ w, S w → (execOp a.eval o).run P w = .ok (.value (.bool r)) w := fun w _ => by
  subst hr
  simp [execOp, ho, hx, hy, eqGuard, binOp, Op.intCmp]
  by_cases h : m = n <;> simp [h]
theorem r_neq {t u : TypeId} {x y : Operand} {m n : Int} {r : Bool} (ho : o.op = .binOp .neq t x y u) (hx : a.eval x = .int .i64 m) (hy : a.eval y = .int .i64 n) (hr : decide (m ≠ n) = r) :
    ∀ w, S w → (execOp a.eval o).run P w = .ok (.value (.bool r)) w := fun w _ => by
  subst hr
  simp [execOp, ho, hx, hy, eqGuard, binOp, Op.intCmp, bne]
  by_cases h : m = n <;> simp [h]
theorem r_not {t : TypeId} {x : Operand} {b r : Bool} (ho : o.op = .unOp .not t x) (hx : a.eval x = .bool b) (hr : (!b) = r) : ∀ w, S w → (execOp a.eval o).run P w = .ok (.value (.bool r)) w := fun w _ => by
  subst hr
  simp [execOp, ho, hx, Op.unary]
theorem r_pick {x y z : Operand} {b : Bool} {v : Value} (ho : o.op = .pick x y z) (hx : a.eval x = .bool b) (hv : (bif b then a.eval y else a.eval z) = v) : ∀ w, S w → (execOp a.eval o).run P w = .ok (.value v) w := fun w _ => by
  subst hv
  cases b <;> simp [execOp, ho, hx, asBool]
theorem r_len {x : Operand} {t : TypeId} {A : Option Addr} {n c : Nat} (ho : o.op = .call { callee := .builtin .len, args := #[x], argTypes := #[t] }) (hx : a.eval x = .slice A n c) (ht : (elSz P t).isSome = true) :
    ∀ w, S w → (execOp a.eval o).run P w = .ok (.value (.int .i64 n)) w := fun w _ => by
  obtain ⟨m, hm⟩ := Option.isSome_iff_exists.1 ht
  obtain ⟨e, hu, _⟩ := elSz_of hm
  simp [execOp, ho, hx, resolve, invoke, builtin, Builtin.len_, underlying, hu, goInt]
theorem r_extract {x : Operand} {j : Nat} {vs : Array Value} {v : Value} (ho : o.op = .extract x j) (hx : a.eval x = .tuple vs) (hv : vs[j]? = some v) : ∀ w, S w → (execOp a.eval o).run P w = .ok (.value v) w := fun w _ => by
  simp [execOp, ho, hx, Instr.extract, hv]
theorem r_eqlB {t u : TypeId} {x y : Operand} {m n : Bool} {r : Bool} (ho : o.op = .binOp .eql t x y u) (hx : a.eval x = .bool m) (hy : a.eval y = .bool n) (ht : P.underlying t = some .bool) (hr : (m == n) = r) :
    ∀ w, S w → (execOp a.eval o).run P w = .ok (.value (.bool r)) w := fun w _ => by
  subst hr
  simp [execOp, ho, hx, hy, eqGuard, binOp, run_equal_bool _ t m n ht]
end

section
variable {P : Program} {ops : Array Oper} {Q : Exit → Act → World → Prop} {W : World} {row : Option Nat}
/-- A new variable that holds a value. -/
theorem sb {i : Nat} {π : Sch} {l : List Value} {w : World} {o : Oper} {d : Tmp} {t : TypeId} {x : Operand} {v : Value} {cs : Array Value} (hS : SG W row w) (hi : ops[i]? = some o) (ho : o.op = .box t x) (hx : (Act.mk l.toArray []).eval x = v) (hcs : v.cells = cs)
    (hw : Region.wanted o (yielded ops l.toArray) = true) (hd : o.dst = some d)
    (h : ∀ b w', w.heap.size = b → Below w.heap.size w w' → w'.heap[b]? = some (.cells cs t (0, 0)) → SG W row w' → wpSch P ops Q (SG W row) π ⟨(l.set d (.pointer (some ⟨b, 0, none⟩))).toArray, []⟩ w') : wpSch P ops Q (SG W row) (.cons (i, true) π) ⟨l.toArray, []⟩ w := by
  show wpOp P ops Q i _ _ w
  unfold wpOp
  simp only [hi, hw, if_true]
  left
  have hb : Below w.heap.size w (w.alloc (.cells cs t (0, 0))) := below_a1 _ _
  have hr : (execOp (Act.mk l.toArray []).eval o).run P w = .ok (.value (.pointer (some ⟨w.heap.size, 0, none⟩))) (w.alloc (.cells cs t (0, 0))) := by
    simp [execOp, ho, hx, hcs, Instr.box, newVar, newRow, newObj]
    rfl
  unfold Oper.wp
  rw [hr, Oper.upon_value]
  refine ⟨hS.of_below hb, ?_⟩
  have := h _ _ rfl hb (heap_alloc_new w _) (hS.of_below hb)
  rw [hd]; simpa [Act.put] using this
end

section
variable {P : Program} {fn : Func} {R : Ending → World → Prop} {l : List Value} {w : World}
theorem ret1 {t : Tmp} {v : Value} (hf : fn.results = #[.tmp t]) (hv : l.getD t undef = v) (h : R (.returned v) w) : bodyPost P fn R .ret ⟨l.toArray, []⟩ w :=
  bodyPost_ret (v := v) (by subst hv; simp [results, hf]) rfl h
theorem end1 {t : Tmp} {v : Value} (hf : fn.results = #[.tmp t]) (hv : l.getD t undef = v) (h : R (.returned v) w) : bodyPost P fn R .normal ⟨l.toArray, []⟩ w :=
  bodyPost_end (v := v) (by subst hv; simp [results, hf]) rfl h
theorem ret2 {t u : Tmp} {v x : Value} (hf : fn.results = #[.tmp t, .tmp u]) (hv : l.getD t undef = v) (hx : l.getD u undef = x) (h : R (.returned (.tuple #[v, x])) w) : bodyPost P fn R .ret ⟨l.toArray, []⟩ w :=
  bodyPost_ret (v := .tuple #[v, x]) (by subst hv hx; simp [results, hf]) rfl h
theorem ret3 {t u s : Tmp} {v x y : Value} (hf : fn.results = #[.tmp t, .tmp u, .tmp s]) (hv : l.getD t undef = v) (hx : l.getD u undef = x) (hy : l.getD s undef = y) (h : R (.returned (.tuple #[v, x, y])) w) : bodyPost P fn R .ret ⟨l.toArray, []⟩ w :=
  bodyPost_ret (v := .tuple #[v, x, y]) (by subst hv hx hy; simp [results, hf]) rfl h
end
/-- A loop, what a round hands on behind a name. -/
theorem loopK {P : Program} {Q : Exit → Act → World → Prop} {a : Act} {w : World} {c : Code} (I : Nat → Act → World → Prop) (n₀ : Nat) (h₀ : I n₀ a w)
    (round : ∀ n a w (K : Act → World → Prop), (∀ n' a w, n' < n → I n' a w → K a w) → I n a w → c.wp P (Exit.then K Q) a w) : (Code.loop c).wp P Q a w :=
  wp_loop_ghost I n₀ h₀ (fun n a w h => round n a w _ (fun n' a' w' hl hi => ⟨n', hl, hi⟩) h)

end Go.Proofs.YtdlcldaogcbnlaaDoor
