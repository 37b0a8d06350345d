/- A queue: a slice of the call's own that is cut at its head and appended to at its end. No program is named here. -/
import Derived.Test.YtdlcldaogcbnlaaDoorSch3
import Derived.ArgAppend
namespace Go.Proofs.YtdlcldaogcbnlaaDoor
open Go.RowKit
set_option linter.unusedVariables false

/-- The slice ⟨A, n, c⟩ lies in a block of the call's own, holds zs, and may be written to its capacity. -/
def QRow (w : World) (base : Nat) (A : Option Addr) (n c : Nat) (zs : List Int) : Prop :=
  ∃ g o, A = some ⟨g, o, none⟩ ∧ base ≤ g ∧ g < w.heap.size ∧ n ≤ c ∧ c ≤ maxLen ∧ zs.length = n ∧ (∀ j z, zs[j]? = some z → w.cell? ⟨g, o + j, none⟩ = some (.int .i64 z)) ∧
    (∀ j, j < c → (w.cell? ⟨g, o + j, none⟩).isSome = true) ∧ (∀ j, w.frozen? ⟨g, o + j, none⟩ = false)
theorem QRow.lt {w : World} {base : Nat} {A : Option Addr} {n c : Nat} {zs : List Int} (h : QRow w base A n c zs) : ∀ k, (Value.slice A n c).ownBlock = some k → base ≤ k ∧ k < w.heap.size := by
  obtain ⟨g, o, rfl, h1, h2, _⟩ := h
  intro k hk
  have : g = k := by simpa [Value.ownBlock] using hk
  omega
theorem QRow.rd {w : World} {base : Nat} {A : Option Addr} {n c : Nat} {zs : List Int} (h : QRow w base A n c zs) : Rd w 1 A n (intsV zs) := by
  obtain ⟨g, o, rfl, h1, h2, _, _, hl, hc, _⟩ := h
  refine ⟨by rw [ints_len, hl]; omega, fun _ => ⟨g, o, rfl, h2, fun j u hu => ?_⟩⟩
  obtain ⟨z, hz, rfl⟩ := ints_at hu
  exact hc j z hz
theorem QRow.grown {w w' : World} {base : Nat} {A : Option Addr} {n c : Nat} {zs : List Int} {row : Option Nat} (h : QRow w base A n c zs) (hg : w.grownBy w' row) (hne : ∀ j, (Value.slice A n c).ownBlock = some j → row = some j → False) : QRow w' base A n c zs := by
  obtain ⟨g, o, rfl, h1, h2, h3, h4, h5, hc, hs, hf⟩ := h
  have hb : w'.heap[g]? = w.heap[g]? := hg.block g h2 (fun e => hne g (by simp [Value.ownBlock]) e.symm)
  exact ⟨g, o, rfl, h1, Nat.lt_of_lt_of_le h2 hg.size, h3, h4, h5, fun j z hz => (World.cell?_of_block (a := ⟨g, o + j, none⟩) hb).trans (hc j z hz), fun j hj => by rw [World.cell?_of_block (a := ⟨g, o + j, none⟩) hb]; exact hs j hj, fun j => (World.frozen?_of_block (a := ⟨g, o + j, none⟩) hb).trans (hf j)⟩
theorem QRow.kept {w w' : World} {base : Nat} {A : Option Addr} {n c : Nat} {zs : List Int} (h : QRow w base A n c zs) (hb : Below w.heap.size w w') : QRow w' base A n c zs :=
  h.grown (row := none) ⟨hb.os, hb.tape, hb.output, hb.size, fun k hk _ => hb.block k hk⟩ (fun _ _ e => by cases e)
theorem QRow.heap {w w' : World} {base : Nat} {A : Option Addr} {n c : Nat} {zs : List Int} (h : QRow w base A n c zs) (e : w'.heap = w.heap) : QRow w' base A n c zs := by
  unfold QRow World.cell? World.frozen? at *; rw [e]; exact h
/-- A row of numbers that a call owns is a queue. -/
theorem QRow.of {w : World} {base : Nat} {e : TypeId} {A : Option Addr} {n c : Nat} {zs : List Int} (h : w.ownsRow base e 1 (.slice A n c) n (intsV zs)) (hA : A ≠ none) : QRow w base A n c zs := by
  rcases h.2 with ⟨hv, _⟩ | ⟨g, cap, cur, hv, h1, h2, h3, h4, h5, h6⟩
  · simp only [Value.slice.injEq] at hv; exact absurd hv.1 hA
  · simp only [Value.slice.injEq] at hv
    obtain ⟨rfl, _, rfl⟩ := hv
    refine ⟨g, 0, rfl, h1, blk_lt h2, h3, h4, by have := own_len h; rw [ints_len] at this; exact this, fun j z hz => ?_, fun j hj => ?_, fun j => ?_⟩
    · have hj : j < n := by have := own_len h; rw [ints_len] at this; have := (List.getElem?_eq_some_iff.1 hz).1; omega
      rw [Nat.zero_add, h.cellAt j (by omega)]; simp [intsV, hz]
    · rw [Nat.zero_add, cell_of_row w g j cur e (0, 0) h2, Array.getElem?_eq_getElem (by omega)]; rfl
    · rw [Nat.zero_add]; exact h.frozenAt j
/-- The queue without its head. -/
theorem QRow.tail {w : World} {base : Nat} {A : Option Addr} {n c : Nat} {z : Int} {zs : List Int} (h : QRow w base A n c (z :: zs)) : QRow w base (sFrom A c 1 1) (n - 1) (c - 1) zs ∧ (Value.slice (sFrom A c 1 1) (n - 1) (c - 1)).ownBlock = (Value.slice A n c).ownBlock := by
  obtain ⟨g, o, rfl, h1, h2, h3, h4, h5, hc, hs, hf⟩ := h
  rw [List.length_cons] at h5
  unfold sFrom
  by_cases e : c = 1
  · rw [if_pos e]
    have e0 : zs = [] := List.eq_nil_of_length_eq_zero (by omega)
    subst e0
    exact ⟨⟨g, o, rfl, h1, h2, by omega, by omega, by simp; omega, fun j z hz => by simp at hz, fun j hj => by omega, hf⟩, rfl⟩
  · rw [if_neg e]
    refine ⟨⟨g, o + 1, by simp [Addr.add_lit], h1, h2, by omega, by omega, by omega, fun j z hz => ?_, fun j hj => ?_, fun j => ?_⟩, by simp [Value.ownBlock, Addr.add_lit]⟩
    · have := hc (j + 1) z (by simpa using hz); rwa [show o + (j + 1) = o + 1 + j by omega] at this
    · have := hs (j + 1) (by omega); rwa [show o + (j + 1) = o + 1 + j by omega] at this
    · have := hf (j + 1); rwa [show o + (j + 1) = o + 1 + j by omega] at this
section
variable {P : Program} {ops : Array Oper} {Q : Exit → Act → World → Prop} {W : World} {row : Option Nat}
/-- One number more at a queue's end. -/
theorem sapQ {i : Nat} {π : Sch} {l : List Value} {w : World} {o : Oper} {d : Tmp} {t e t' : TypeId} {s x : Operand} {A : Option Addr} {base n c b c' : Nat} {zs : List Int} {z : Int} (hS : SG W row w) (hi : ops[i]? = some o) (hg : o.guard = none) (hd : o.dst = some d)
    (ho : o.op = .call { callee := .builtin .append, args := #[s, x], argTypes := #[t, t] }) (hs : (Act.mk l.toArray []).eval s = .slice A n c) (hx : (Act.mk l.toArray []).eval x = .slice (some ⟨b, 0, none⟩) 1 c') (hT : elT P t e 1 = true)
    (hq : QRow w base A n c zs) (hxb : w.heap[b]? = some (.cells #[.int .i64 z] t' (0, 0))) (hn : n ≤ 1000000000) (hb : base ≤ w.heap.size) (hrow : (Value.slice A n c).ownBlock = row ∨ ∀ k, (Value.slice A n c).ownBlock = some k → W.heap.size ≤ k)
    (h : ∀ A' c'' w', QRow w' base A' (n + 1) c'' (zs ++ [z]) → w.grownBy w' (Value.slice A n c).ownBlock → ((Value.slice A' (n + 1) c'').ownBlock = (Value.slice A n c).ownBlock ∨ ∀ k, (Value.slice A' (n + 1) c'').ownBlock = some k → w.heap.size ≤ k) → SG W row w' →
      wpSch P ops Q (SG W row) π ⟨(l.set d (.slice A' (n + 1) c'')).toArray, []⟩ w') : wpSch P ops Q (SG W row) (.cons (i, true) π) ⟨l.toArray, []⟩ w := by
  obtain ⟨hu, i0, zv, by_, h1i, h2i, h3i, h4i, h5i, h6i, h7i⟩ := elT_of hT
  have hw : Region.wanted o (yielded ops l.toArray) = true := by simp [Region.wanted, hg]
  have hq0 := hq
  obtain ⟨g, off, rfl, h1, h2, h3, h4, h5, hc, hsm, hf⟩ := hq
  have hnews := World.news_of_block hxb
  have hone : ∀ u ∈ (#[Value.int .i64 z] : Array Value).toList, u.oneCell' = true := fun u hu => by simp at hu; subst hu; rfl
  by_cases hr : n + 1 ≤ c
  · have hrun := run_append_room_cells (P := P) w t o.type e i0 hu h1i g off n c ⟨b, 0, none⟩ 1 c' _ (by simp [h3i]) hnews hone hr (fun j hj => by
      have : j = 0 := by simpa using hj
      subst this; rw [h3i, Nat.mul_one, Nat.add_zero]; exact hsm n (by omega)) (fun j hj => by
      have : j = 0 := by simpa using hj
      subst this; rw [h3i, Nat.mul_one, Nat.add_zero]; exact hf n)
    rw [h3i, Nat.mul_one] at hrun
    have hset : w.setCells g (off + n) (#[Value.int .i64 z] : Array Value).toList = w.setCell ⟨g, off + n, none⟩ (.int .i64 z) := rfl
    rw [hset] at hrun
    have hr' : (execOp (Act.mk l.toArray []).eval o).run P w = .ok (.value (.slice (some ⟨g, off, none⟩) (n + 1) c)) (w.setCell ⟨g, off + n, none⟩ (.int .i64 z)) := by
      simp [execOp, ho, resolve, invoke, builtin, hs, hx, hrun, Result.andThen]
    obtain ⟨u, hu0⟩ := Option.isSome_iff_exists.1 (hsm n (by omega))
    have hgr : w.grownBy (w.setCell ⟨g, off + n, none⟩ (.int .i64 z)) (some g) := ⟨rfl, rfl, rfl, by simp, fun k hk hn => heap_setCell_other w ⟨g, off + n, none⟩ k _ (fun e => hn (by rw [e]))⟩
    have hS' := hS.of_grown hgr (by
      rcases hrow with e' | e'
      · exact .inl (by rw [← e']; simp [Value.ownBlock])
      · exact .inr (fun k e'' => e' k (by cases e''; simp [Value.ownBlock])))
    refine sl hi hw hd hr' hS' (h _ _ _ ⟨g, off, rfl, h1, by simpa using h2, hr, h4, by simp [h5], fun j y hy => ?_, fun j hj => ?_, fun j => ?_⟩ (by simpa [Value.ownBlock] using hgr) (.inl (by simp [Value.ownBlock])) hS')
    · by_cases e' : j = n
      · subst e'
        rw [List.getElem?_append_right (by omega), h5] at hy
        simp at hy; subst hy
        exact World.cell?_setCell_same _ _ _ hu0
      · have hj : j < zs.length := by have := (List.getElem?_eq_some_iff.1 hy).1; rw [List.length_append] at this; simp at this; omega
        rw [List.getElem?_append_left hj] at hy
        rw [World.cell?_setCell_other _ _ _ _ (fun e9 => by have e8 := congrArg Addr.off e9; simp only [] at e8; omega)]
        exact hc j y hy
    · by_cases e' : j = n
      · subst e'; rw [World.cell?_setCell_same _ _ _ hu0]; rfl
      · rw [World.cell?_setCell_other _ _ _ _ (fun e9 => by have e8 := congrArg Addr.off e9; simp only [] at e8; omega)]; exact hsm j hj
    · rw [World.frozen?_setCell]; exact hf j
  · have hby : (n + 1) * by_ ≤ 140737488355328 := Nat.le_trans (Nat.mul_le_mul (show n + 1 ≤ 1000000001 by omega) h7i) (by decide)
    obtain ⟨v', w', hrun, a2, a3⟩ := run_append_arg_grows (P := P) w t o.type e i0 zv 1 by_ hu h1i h2i h3i h4i h5i h6i ⟨g, off, none⟩ n c (intsV zs) (by rw [ints_len, h5]; omega) (fun j u hu => by
      obtain ⟨y, hy, rfl⟩ := ints_at hu
      rw [Addr.add_lit]; exact hc j y hy) ⟨b, 0, none⟩ 1 c' _ (by simp) hnews (by omega) (by unfold maxLen; omega) hby
    obtain ⟨g', cap, rfl, hg1, hg2⟩ := a2.form (by omega)
    have hr' : (execOp (Act.mk l.toArray []).eval o).run P w = .ok (.value (.slice (some ⟨g', 0, none⟩) (n + 1) cap)) w' := by
      simp [execOp, ho, resolve, invoke, builtin, hs, hx, hrun, Result.andThen]
    have hgr : w.grownBy w' (some g) := ⟨a3.os, a3.tape, a3.output, a3.size, fun k hk _ => a3.block k hk (by simp)⟩
    have hS' := hS.of_grown a3 (.inr (fun k e' => by cases e'))
    have hq' := QRow.of (own_snoc a2) (by simp)
    obtain ⟨g2, o2, e2, k1, k2, r⟩ := hq'
    refine sl hi hw hd hr' hS' (h _ _ _ ⟨g2, o2, e2, by omega, k2, r⟩ (by simpa [Value.ownBlock] using hgr) (.inr (fun k hk => by
      have : g' = k := by simpa [Value.ownBlock] using hk
      omega)) hS')
end

/-! ### rows beside rows; loads and stores at the world at hand -/
def NbR (v u : Value) : Prop := ∀ j, v.ownBlock = some j → u.ownBlock = some j → False
theorem NbR.symm {v u : Value} (h : NbR v u) : NbR u v := fun j a b => h j b a
theorem nbr_new {b n c : Nat} {u : Value} (h : Nb b u) : NbR (.slice (some ⟨b, 0, none⟩) n c) u := fun j e1 e2 => h (by
  have : b = j := by simpa [Value.ownBlock] using e1
  rw [this]; exact e2.symm)
theorem nbr_app {v v' u : Value} {H : Nat} (h : NbR v u) (hl : ∀ j, u.ownBlock = some j → j < H) (hat : v'.ownBlock = v.ownBlock ∨ ∀ k, v'.ownBlock = some k → H ≤ k) : NbR v' u := fun j e1 e2 => by
  rcases hat with a | a
  · exact h j (a.symm.trans e1) e2
  · have := a j e1; have := hl j e2; omega
theorem nbr_same {v v' u : Value} (h : NbR v u) (e : v'.ownBlock = v.ownBlock) : NbR v' u := fun j e1 e2 => h j (e.symm.trans e1) e2
theorem nb_same {b : Nat} {v v' : Value} (h : Nb b v) (e : v'.ownBlock = v.ownBlock) : Nb b v' := fun e1 => h (e1.trans e)
theorem nb_app3 {b H : Nat} {v v' : Value} (h : Nb b v) (hl : b < H) (hat : v'.ownBlock = v.ownBlock ∨ ∀ k, v'.ownBlock = some k → H ≤ k) : Nb b v' := fun e => by
  rcases hat with a | a
  · exact h (e.trans a)
  · have := a b e.symm; omega
theorem own_setI {w : World} {base : Nat} {e : TypeId} {v : Value} {n j : Nat} {zs : List Int} {z : Int} (h : w.ownsRow base e 1 v n ((intsV zs).set j (.int .i64 z))) : w.ownsRow base e 1 v n (intsV (zs.set j z)) := by
  have e1 : (intsV zs).set j (.int .i64 z) = intsV (zs.set j z) := by unfold intsV; rw [List.map_set]
  rwa [e1] at h
theorem own_atI {w : World} {base g n c : Nat} {e : TypeId} {zs : List Int} {j : Nat} {z : Int} (h : w.ownsRow base e 1 (.slice (some ⟨g, 0, none⟩) n c) n (intsV zs)) (hz : zs[j]? = some z) : w.cell? ⟨g, j, none⟩ = some (.int .i64 z) := by
  have hl := own_len h
  rw [ints_len] at hl
  have hj := (List.getElem?_eq_some_iff.1 hz).1
  rw [h.cellAt j (by omega)]
  simp [intsV, hz]
section
variable {P : Program} {ops : Array Oper} {Q : Exit → Act → World → Prop} {W : World} {row : Option Nat} {S : World → Prop}
/-- An operation that yields in the world at hand. -/
theorem slq {i : Nat} {π : Sch} {l : List Value} {w : World} {o : Oper} {d : Tmp} {v : Value} (hS : S w) (hi : ops[i]? = some o) (hr : ∀ w', w' = w → (execOp (Act.mk l.toArray []).eval o).run P w' = .ok (.value v) w')
    (hw : Region.wanted o (yielded ops l.toArray) = true) (hd : o.dst = some d) (h : wpSch P ops Q S π ⟨(l.set d v).toArray, []⟩ w) : wpSch P ops Q S (.cons (i, true) π) ⟨l.toArray, []⟩ w :=
  sl hi hw hd (hr w rfl) hS h
/-- make of numbers. -/
theorem sm {i : Nat} {π : Sch} {l : List Value} {w : World} {o : Oper} {d : Tmp} {t e : TypeId} {x y : Operand} {n : Nat} (base : Nat) (hS : SG W row w) (hi : ops[i]? = some o) (hw : Region.wanted o (yielded ops l.toArray) = true) (hd : o.dst = some d)
    (ho : o.op = .makeSlice t x y) (hx : (Act.mk l.toArray []).eval x = .int .i64 (n : Int)) (hy : (Act.mk l.toArray []).eval y = .int .i64 (n : Int)) (hT : elT P t e 1 = true) (hz : ∃ i0, P.info? e = some i0 ∧ i0.zero = some (.int .i64 0)) (hn : n ≤ 1000000) (hb : base ≤ w.heap.size)
    (h : ∀ b w', w.heap.size = b → Below w.heap.size w w' → w'.ownsRow base e 1 (.slice (some ⟨b, 0, none⟩) n n) n (intsV (List.replicate n 0)) → SG W row w' → wpSch P ops Q (SG W row) π ⟨(l.set d (.slice (some ⟨b, 0, none⟩) n n)).toArray, []⟩ w') :
    wpSch P ops Q (SG W row) (.cons (i, true) π) ⟨l.toArray, []⟩ w := by
  obtain ⟨hu, i0, z, by_, h1i, h2i, h3i, h4i, h5i, h6i, h7i⟩ := elT_of hT
  obtain ⟨i1, hz1, hz2⟩ := hz
  obtain rfl : i1 = i0 := Option.some.inj (hz1.symm.trans h1i)
  obtain rfl : z = .int .i64 0 := Option.some.inj (h2i.symm.trans hz2)
  have hby : i1.bytes * n ≤ 281474976710656 := by rw [h4i]; exact Nat.le_trans (Nat.mul_le_mul h7i hn) (by decide)
  obtain ⟨w', hrun, ho', hg⟩ := run_makeSlice_full (P := P) (w := w) base t e i1 (.int .i64 0) 1 hu h1i h2i h3i .i64 .i64 n (by omega) hby (by unfold maxLen; omega) hb
  rw [Nat.mul_one, show (Value.int .i64 0).cells = #[.int .i64 0] from rfl, toList_madeCells_one] at ho'
  have hb' : Below w.heap.size w w' := (Below.refl _ _).grown hg (Nat.le_refl _) (by simp)
  have hr : (execOp (Act.mk l.toArray []).eval o).run P w = .ok (.value (.slice (some ⟨w.heap.size, 0, none⟩) n n)) w' := by
    simp [execOp, ho, hx, hy, hrun, Result.andThen]
  have e1 : List.replicate n (Value.int .i64 0) = intsV (List.replicate n 0) := by simp [intsV]
  rw [e1] at ho'
  exact sl hi hw hd hr (hS.of_below hb') (h _ w' rfl hb' ho' (hS.of_below hb'))
end

end Go.Proofs.YtdlcldaogcbnlaaDoor
