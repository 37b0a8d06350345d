/- Parts of slices, and appends of slices that are read. No program is named here. -/
import Derived.Test.YtdlcldaogcbnlaaDoorSch2
import Derived.Laws.AppendOwnNone
namespace Go.Proofs.YtdlcldaogcbnlaaDoor
open Go.RowKit
set_option linter.unusedVariables false

/-- A slice's form: no longer than its capacity; nil has none. -/
structure Fm (A : Option Addr) (n c : Nat) : Prop where
  le : n ≤ c
  nil : A = none → c = 0
theorem own_fm {w : World} {base : Nat} {e : TypeId} {size : Nat} {A : Option Addr} {n c : Nat} {xs : List Value} (h : w.ownsRow base e size (.slice A n c) n xs) : Fm A n c := by
  rcases h.2 with ⟨hv, h0⟩ | ⟨g, cap, cur, hv, _, _, hnc, _⟩
  · simp only [Value.slice.injEq] at hv
    exact ⟨by omega, fun _ => hv.2.2⟩
  · simp only [Value.slice.injEq] at hv
    exact ⟨by rw [hv.2.2]; exact hnc, fun e => by rw [e] at hv; cases hv.1⟩
/-- Where the rest of a slice lies. -/
def sFrom (A : Option Addr) (c k size : Nat) : Option Addr := if c = k then A else A.map (fun a => a.add (k * size))
theorem Fm.to {A : Option Addr} {n c k : Nat} (h : Fm A n c) (hk : k ≤ c) : Fm A k c := ⟨hk, h.nil⟩
theorem Fm.from {A : Option Addr} {n c k size : Nat} (h : Fm A n c) (hk : k ≤ n) : Fm (sFrom A c k size) (n - k) (c - k) := ⟨by have := h.le; omega, fun e => by
  unfold sFrom at e
  split at e
  · omega
  · have := h.nil (by cases A with | none => rfl | some a => cases e)
    omega⟩
theorem Rd.to {w : World} {size : Nat} {A : Option Addr} {n k : Nat} {xs : List Value} (h : Rd w size A n xs) (hk : k ≤ n) : Rd w size A k (xs.take (k * size)) :=
  ⟨by rw [List.length_take, h.1]; exact Nat.min_eq_left (Nat.mul_le_mul_right _ hk), fun h0 => by
    obtain ⟨b, off, e, hb, hc⟩ := h.2 (by omega)
    exact ⟨b, off, e, hb, fun j u hu => hc j u (by rw [List.getElem?_take] at hu; split at hu; exact hu; cases hu)⟩⟩
theorem Rd.from {w : World} {size : Nat} {A : Option Addr} {n c k : Nat} {xs : List Value} (h : Rd w size A n xs) (hk : k ≤ n) (hc : n ≤ c) : Rd w size (sFrom A c k size) (n - k) (xs.drop (k * size)) :=
  ⟨by rw [List.length_drop, h.1, Nat.sub_mul], fun h0 => by
    obtain ⟨b, off, e, hb, hcell⟩ := h.2 (by omega)
    refine ⟨b, off + k * size, ?_, hb, fun j u hu => ?_⟩
    · unfold sFrom; rw [if_neg (by omega), e]; simp [Addr.add_lit]
    · rw [List.getElem?_drop] at hu
      have := hcell _ u hu
      rwa [← Nat.add_assoc] at this⟩
theorem Rd.toI {w : World} {A : Option Addr} {n k : Nat} {zs : List Int} (h : Rd w 1 A n (intsV zs)) (hk : k ≤ n) : Rd w 1 A k (intsV (zs.take k)) := by
  have := h.to hk; rwa [Nat.mul_one, show (intsV zs).take k = intsV (zs.take k) by simp [intsV]] at this
theorem Rd.fromI {w : World} {A : Option Addr} {n c k : Nat} {zs : List Int} (h : Rd w 1 A n (intsV zs)) (hk : k ≤ n) (hc : n ≤ c) : Rd w 1 (sFrom A c k 1) (n - k) (intsV (zs.drop k)) := by
  have := h.from hk hc; rwa [Nat.mul_one, show (intsV zs).drop k = intsV (zs.drop k) by simp [intsV]] at this
theorem flat_take {ps : List Pp} : ∀ k, (pipesV ps).take (k * 4) = pipesV (ps.take k) := by
  intro k
  induction ps generalizing k with
  | nil => simp [pipesV]
  | cons p ps ih =>
    cases k with
    | zero => simp [pipesV]
    | succ k => simp only [pipesV, List.flatMap_cons, List.take_succ_cons] at ih ⊢; rw [show (k + 1) * 4 = k * 4 + 4 by omega]; simp [Pp.vals, ih]
theorem flat_drop {ps : List Pp} : ∀ k, (pipesV ps).drop (k * 4) = pipesV (ps.drop k) := by
  intro k
  induction ps generalizing k with
  | nil => simp [pipesV]
  | cons p ps ih =>
    cases k with
    | zero => simp [pipesV]
    | succ k => simp only [pipesV, List.flatMap_cons, List.drop_succ_cons] at ih ⊢; rw [show (k + 1) * 4 = k * 4 + 4 by omega]; simp [Pp.vals, ih]
theorem Rd.toP {w : World} {A : Option Addr} {n k : Nat} {ps : List Pp} (h : Rd w 4 A n (pipesV ps)) (hk : k ≤ n) : Rd w 4 A k (pipesV (ps.take k)) := by
  have := h.to hk; rwa [flat_take] at this
theorem Rd.fromP {w : World} {A : Option Addr} {n c k : Nat} {ps : List Pp} (h : Rd w 4 A n (pipesV ps)) (hk : k ≤ n) (hc : n ≤ c) : Rd w 4 (sFrom A c k 4) (n - k) (pipesV (ps.drop k)) := by
  have := h.from hk hc; rwa [flat_drop] at this
section
variable {P : Program} {S : World → Prop} {o : Oper} {a : Act}
theorem r_sliceTo {t : TypeId} {x y : Operand} {A : Option Addr} {n c k size : Nat} (ho : o.op = .slice t x none (some y) none) (hx : a.eval x = .slice A n c) (hy : a.eval y = .int .i64 (k : Int)) (ht : elSz P t = some size) (hk : k ≤ c) :
    ∀ w, S w → (execOp a.eval o).run P w = .ok (.value (.slice A k c)) w := fun w _ => by
  obtain ⟨e, hu, hs⟩ := elSz_of ht
  have h0 : (0 : Int) ≤ (k : Int) ∧ (k : Int) ≤ (c : Int) := by omega
  have hA : A.map (fun a => a.add 0) = A := by cases A <;> simp [Addr.add]
  simp [execOp, ho, hx, hy, Instr.sliceAt, Instr.slice, Instr.sliceBounds, Instr.sliceBound, asIntOf, underlying, hu, run_sizeOf hs, h0, hA]
  intro h; omega
theorem r_sliceFrom {t : TypeId} {x y : Operand} {A : Option Addr} {n c k size : Nat} (ho : o.op = .slice t x (some y) none none) (hx : a.eval x = .slice A n c) (hy : a.eval y = .int .i64 (k : Int)) (ht : elSz P t = some size) (hk : k ≤ n) :
    ∀ w, S w → (execOp a.eval o).run P w = .ok (.value (.slice (sFrom A c k size) (n - k) (c - k))) w := fun w _ => by
  obtain ⟨e, hu, hs⟩ := elSz_of ht
  have h0 : (0 : Int) ≤ (k : Int) ∧ (k : Int) ≤ (n : Int) := by omega
  simp [execOp, ho, hx, hy, Instr.sliceAt, Instr.slice, Instr.sliceBounds, Instr.sliceBound, asIntOf, underlying, hu, run_sizeOf hs, h0, sFrom]
  intro h; omega
end
section
variable {P : Program} {ops : Array Oper} {Q : Exit → Act → World → Prop} {W : World} {row : Option Nat}
/-- An append of a slice that is read. -/
theorem sapR {i : Nat} {π : Sch} {l : List Value} {w : World} {o : Oper} {d : Tmp} {t e : TypeId} {s x : Operand} {v : Value} {base size n m c : Nat} {A : Option Addr} {xs news : List Value} (hS : SG W row w) (hi : ops[i]? = some o) (hg : o.guard = none) (hd : o.dst = some d)
    (ho : o.op = .call { callee := .builtin .append, args := #[s, x], argTypes := #[t, t] }) (hs : (Act.mk l.toArray []).eval s = v) (hx : (Act.mk l.toArray []).eval x = .slice A m c) (hT : elT P t e size = true)
    (how : w.ownsRow base e size v n xs) (hrd : Rd w size A m news) (hf : Fm A m c) (h1 : ∀ u ∈ news, u.oneCell' = true) (hn : n + m ≤ 1000000000) (hb : base ≤ w.heap.size) (hrow : v.ownBlock = row ∨ ∀ k, v.ownBlock = some k → W.heap.size ≤ k)
    (h : ∀ A' c' w', w'.ownsRow base e size (.slice A' (n + m) c') (n + m) (xs ++ news) → w.grownBy w' v.ownBlock → ((Value.slice A' (n + m) c').ownBlock = v.ownBlock ∨ (Value.slice A' (n + m) c').ownBlock = some w.heap.size) → SG W row w' →
      wpSch P ops Q (SG W row) π ⟨(l.set d (.slice A' (n + m) c')).toArray, []⟩ w') : wpSch P ops Q (SG W row) (.cons (i, true) π) ⟨l.toArray, []⟩ w := by
  obtain ⟨hu, i0, z, by_, h1i, h2i, h3i, h4i, h5i, h6i, h7i⟩ := elT_of hT
  have hw : Region.wanted o (yielded ops l.toArray) = true := by simp [Region.wanted, hg]
  cases A with
  | none =>
    obtain rfl : c = 0 := hf.nil rfl
    obtain rfl : m = 0 := by have := hf.le; omega
    obtain rfl : news = [] := List.eq_nil_of_length_eq_zero (by have := hrd.1; omega)
    obtain ⟨A', c', rfl⟩ := own_form how
    have hrun := run_append_owned_none (P := P) (w := w) base t o.type e i0 size hu h1i _ n xs how
    have hr : (execOp (Act.mk l.toArray []).eval o).run P w = .ok (.value (.slice A' n c')) w := by
      simp [execOp, ho, resolve, invoke, builtin, hs, hx, hrun, Result.andThen]
    refine sl hi hw hd hr hS ?_
    exact h A' c' w (by simpa using how) (World.grownBy.refl _ _) (.inl rfl) hS
  | some ad =>
    have hnews : ∀ j u, news[j]? = some u → w.cell? (ad.add j) = some u := fun j u hu => by
      have hlt : j < news.length := (List.getElem?_eq_some_iff.1 hu).1
      have hm : 0 < m := by
        rcases Nat.eq_zero_or_pos m with e | e
        · subst e; have := hrd.1; omega
        · exact e
      obtain ⟨b, off, e, _, hc⟩ := hrd.2 hm
      cases e
      rw [Addr.add_lit]; exact hc j u hu
    have hby : (n + m) * by_ ≤ 140737488355328 := Nat.le_trans (Nat.mul_le_mul hn h7i) (by decide)
    obtain ⟨v', w', hrun, a2, a3, _, a5⟩ := run_append_own_at (P := P) w base t o.type e i0 z size by_ hu h1i h2i h3i h4i h5i h6i v n xs how ad m c news hrd.1 hnews h1 (by unfold maxLen; omega) hby hb
    obtain ⟨A', c', rfl⟩ := own_form a2
    have hr : (execOp (Act.mk l.toArray []).eval o).run P w = .ok (.value (.slice A' (n + m) c')) w' := by
      simp [execOp, ho, resolve, invoke, builtin, hs, hx, hrun, Result.andThen]
    have hS' := hS.of_grown a3 hrow
    exact sl hi hw hd hr hS' (h A' c' w' a2 a3 a5 hS')
theorem ints_one (zs : List Int) : ∀ u ∈ intsV zs, u.oneCell' = true := fun u hu => by
  unfold intsV at hu; obtain ⟨z, _, rfl⟩ := List.mem_map.1 hu; rfl
theorem pipes_one (ps : List Pp) : ∀ u ∈ pipesV ps, u.oneCell' = true := fun u hu => by
  unfold pipesV at hu; obtain ⟨p, _, hp⟩ := List.mem_flatMap.1 hu
  simp [Pp.vals] at hp
  rcases hp with rfl | rfl | rfl | rfl <;> rfl
theorem own_joinI {w : World} {base : Nat} {e : TypeId} {v : Value} {n : Nat} {zs ys : List Int} (h : w.ownsRow base e 1 v n (intsV zs ++ intsV ys)) : w.ownsRow base e 1 v n (intsV (zs ++ ys)) := by
  simpa [intsV] using h
theorem own_joinP {w : World} {base : Nat} {e : TypeId} {v : Value} {n : Nat} {zs ys : List Pp} (h : w.ownsRow base e 4 v n (pipesV zs ++ pipesV ys)) : w.ownsRow base e 4 v n (pipesV (zs ++ ys)) := by
  simpa [pipesV] using h
theorem nb_app2 {b H : Nat} {v v' : Value} (h : Nb b v) (hl : b < H) (hat : v'.ownBlock = v.ownBlock ∨ v'.ownBlock = some H) : Nb b v' := fun e => by
  rcases hat with hat | hat
  · exact h (e.trans hat)
  · have := Option.some.inj (e.trans hat); omega
end

end Go.Proofs.YtdlcldaogcbnlaaDoor
