/- How the laws' arguments are opened: structs of numbers, slices of numbers, strings and structs: what their cells hold. No program is named here. -/
import Derived.Test.YtdlcldaogcbnlaaDoorMem
import Derived.ProofKit
import Derived.OpenShut
import Derived.Lib.SmallJoins
import Derived.Deep.Slices
import Derived.Deep.Fields
namespace Go.Proofs.YtdlcldaogcbnlaaDoor
open Go.RowKit Go.ChangeShapes Go.WideShapes Go.Deep Go.Joins
set_option linter.unusedVariables false

section
variable {H : Type} {enc : TypeId × Value → H} {P : Program} {w : World} {base : Nat} {spare : Nat → Bool} {held : Bool}

theorem open_int2 {r : Reach} {b0 : Nat} {t ti : TypeId} {f0 f1 : Field} {v : Value} {d : DataW H} {p : List MemPlace} (hs : P.underlying t = some (.struct #[f0, f1])) (hone : oneCellFields P #[f0, f1] = true) (hC : P.cellsOf t = 2)
    (h0 : f0.type = ti) (h1 : f1.type = ti) (hi : P.underlying ti = some (.int .i64)) (hv : Value.okWide P w r b0 t v) (h : DataW.Trod enc P w base spare held t v d p) :
    ∃ a b : Int, v = .agg #[.int .i64 a, .int .i64 b] ∧ wf64 a ∧ wf64 b := by
  obtain ⟨v0, v1, y0, y1, m, rfl, _, _, t0, t1⟩ := open_agg2 hs hone hC hv h
  rw [h0] at t0
  rw [h1] at t1
  obtain ⟨a, e0, _, wa⟩ := DataW.trod_int hi t0
  obtain ⟨b, e1, _, wb⟩ := DataW.trod_int hi t1
  simp at e0 e1
  subst e0 e1
  exact ⟨a, b, rfl, wa, wb⟩

theorem open_pipe {r : Reach} {b0 : Nat} {t ti : TypeId} {f0 f1 f2 f3 : Field} {v : Value} {d : DataW H} {p : List MemPlace} (hs : P.underlying t = some (.struct #[f0, f1, f2, f3])) (hone : oneCellFields P #[f0, f1, f2, f3] = true) (hC : P.cellsOf t = 4)
    (h0 : f0.type = ti) (h1 : f1.type = ti) (h2 : f2.type = ti) (h3 : f3.type = ti) (hi : P.underlying ti = some (.int .i64)) (hv : Value.okWide P w r b0 t v) (h : DataW.Trod enc P w base spare held t v d p) :
    ∃ x : Pp, v = x.val ∧ x.wf := by
  obtain ⟨v0, v1, v2, v3, y0, y1, y2, y3, m, rfl, _, _, t0, t1, t2, t3⟩ := open_agg4 hs hone hC hv h
  rw [h0] at t0
  rw [h1] at t1
  rw [h2] at t2
  rw [h3] at t3
  obtain ⟨a, e0, _, wa⟩ := DataW.trod_int hi t0
  obtain ⟨b, e1, _, wb⟩ := DataW.trod_int hi t1
  obtain ⟨c, e2, _, wc⟩ := DataW.trod_int hi t2
  obtain ⟨d', e3, _, wd⟩ := DataW.trod_int hi t3
  simp at e0 e1 e2 e3
  subst e0 e1 e2 e3
  exact ⟨⟨a, b, c, d'⟩, rfl, wa, wb, wc, wd⟩

theorem open_valve {r : Reach} {b0 : Nat} {t ti tb : TypeId} {f0 f1 f2 f3 : Field} {v : Value} {d : DataW H} {p : List MemPlace} (hs : P.underlying t = some (.struct #[f0, f1, f2, f3])) (hone : oneCellFields P #[f0, f1, f2, f3] = true) (hC : P.cellsOf t = 4)
    (h0 : f0.type = ti) (h1 : f1.type = ti) (h2 : f2.type = ti) (h3 : f3.type = tb) (hi : P.underlying ti = some (.int .i64)) (hb : P.underlying tb = some .bool) (hv : Value.okWide P w r b0 t v) (h : DataW.Trod enc P w base spare held t v d p) :
    ∃ x : Vv, v = x.val ∧ x.wf := by
  obtain ⟨v0, v1, v2, v3, y0, y1, y2, y3, m, rfl, _, _, t0, t1, t2, t3⟩ := open_agg4 hs hone hC hv h
  rw [h0] at t0
  rw [h1] at t1
  rw [h2] at t2
  rw [h3] at t3
  obtain ⟨a, e0, _, wa⟩ := DataW.trod_int hi t0
  obtain ⟨b, e1, _, wb⟩ := DataW.trod_int hi t1
  obtain ⟨c, e2, _, wc⟩ := DataW.trod_int hi t2
  obtain ⟨d', e3, _⟩ := DataW.trod_bool hb t3
  simp at e0 e1 e2 e3
  subst e0 e1 e2 e3
  exact ⟨⟨a, b, c, d'⟩, rfl, wa, wb, wc⟩

/-- An address at which a cell is read has no spot, and its block is there. -/
theorem addr_form {a : Addr} {u : Value} (h : w.cell? (a.add 0) = some u) : ∃ b off, a = ⟨b, off, none⟩ ∧ b < w.heap.size := by
  obtain ⟨b, off, spot⟩ := a
  have e : (⟨b, off, spot⟩ : Addr).add 0 = ⟨b, off, spot⟩ := by simp [Addr.add]
  rw [e] at h
  have hs : spot = none := World.cell?_spot h
  subst hs
  exact ⟨b, off, rfl, World.block_lt_of_cell? w _ h⟩
theorem add_form (b off j : Nat) : (⟨b, off, none⟩ : Addr).add j = ⟨b, off + j, none⟩ := by
  unfold Addr.add
  by_cases h : j = 0
  · subst h; simp
  · simp [h]

theorem open_nums {t e : TypeId} {k : IntKind} {A : Option Addr} {len cap : Nat} {d : DataW H} {p : List MemPlace} (ht : P.underlying t = some (.slice e)) (he : P.underlying e = some (.int k)) (hc : P.cellsOf e = 1)
    (h : DataW.Trod enc P w base spare held t (.slice A len cap) d p) :
    ∃ zs : List Int, zs.length = len ∧ Rd w 1 A len (zs.map (Value.int k)) ∧ len ≤ maxLen ∧ ∀ n ∈ zs, (Lit.int k n).wf = true := by
  obtain ⟨fuel, hf⟩ := h
  rcases open_ints ht he hc hf with ⟨hcs, _⟩ | ⟨x, l, c, zs, hcs, _, hl, hm, hz, _, hcell, hwz⟩
  · simp [Value.cells] at hcs
    obtain ⟨rfl, rfl, rfl⟩ := hcs
    exact ⟨[], rfl, Rd.nil, Nat.zero_le _, fun n hn => by cases hn⟩
  · simp [Value.cells] at hcs
    obtain ⟨rfl, rfl, rfl⟩ := hcs
    have hle : len ≤ zs.length := by rw [hz]; split <;> omega
    refine ⟨zs.take len, by simp; omega, ⟨by simp; omega, fun hn => ?_⟩, by omega, fun n hn => hwz n (List.mem_of_mem_take hn)⟩
    obtain ⟨b, off, rfl, hb⟩ := addr_form (hcell 0 (by omega))
    refine ⟨b, off, rfl, hb, fun j u hu => ?_⟩
    rw [List.getElem?_map, List.getElem?_take] at hu
    split at hu
    · rename_i hj
      have := hcell j (by omega)
      rw [add_form] at this
      rw [this]
      rw [List.getElem?_eq_getElem (by omega)] at hu
      simp at hu
      rw [← hu, List.getD_eq_getElem?_getD, List.getElem?_eq_getElem (by omega)]; rfl
    · simp at hu

theorem open_strs {t e : TypeId} {A : Option Addr} {len cap : Nat} {d : DataW H} {p : List MemPlace} (ht : P.underlying t = some (.slice e)) (he : P.underlying e = some .string) (hc : P.cellsOf e = 1)
    (h : DataW.Trod enc P w base spare held t (.slice A len cap) d p) :
    ∃ ss : List ByteArray, ss.length = len ∧ Rd w 1 A len (strsV ss) ∧ len ≤ maxLen ∧ ∀ s ∈ ss, s.size ≤ maxLen := by
  obtain ⟨fuel, hf⟩ := h
  rcases open_strings ht he hc hf with ⟨hcs, _⟩ | ⟨x, l, c, zs, hcs, _, hl, hm, hz, _, hcell, hwz⟩
  · simp [Value.cells] at hcs
    obtain ⟨rfl, rfl, rfl⟩ := hcs
    exact ⟨[], rfl, Rd.nil, Nat.zero_le _, fun n hn => by cases hn⟩
  · simp [Value.cells] at hcs
    obtain ⟨rfl, rfl, rfl⟩ := hcs
    have hle : len ≤ zs.length := by rw [hz]; split <;> omega
    refine ⟨zs.take len, by simp; omega, ⟨by simp [strsV]; omega, fun hn => ?_⟩, by omega, fun n hn => hwz n (List.mem_of_mem_take hn)⟩
    obtain ⟨b, off, rfl, hb⟩ := addr_form (hcell 0 (by omega))
    refine ⟨b, off, rfl, hb, fun j u hu => ?_⟩
    unfold strsV at hu
    rw [List.getElem?_map, List.getElem?_take] at hu
    split at hu
    · rename_i hj
      have := hcell j (by omega)
      rw [add_form] at this
      rw [this]
      rw [List.getElem?_eq_getElem (by omega)] at hu
      simp at hu
      rw [← hu, List.getD_eq_getElem?_getD, List.getElem?_eq_getElem (by omega)]; rfl
    · simp at hu

/-- A slice of structs of four one-cell fields: the fields' values, each with its own reading. -/
theorem open_rows4 {t e : TypeId} {f0 f1 f2 f3 : Field} {A : Option Addr} {len cap : Nat} {fuel : Nat} {x : DataW H × List MemPlace} (ht : P.underlying t = some (.slice e)) (he : P.underlying e = some (.struct #[f0, f1, f2, f3]))
    (hone : oneCellFields P #[f0, f1, f2, f3] = true) (hC : P.cellsOf e = 4) (h : DataW.trod enc P w base spare held fuel t [.slice A len cap] = some x) :
    len ≤ maxLen ∧ ∃ off b : Nat, (0 < len → A = some ⟨b, off, none⟩ ∧ b < w.heap.size) ∧ ∀ i, i < len → ∃ (n : Nat) (u0 u1 u2 u3 : Value) (y0 y1 y2 y3 : DataW H × List MemPlace),
      (w.cell? ⟨b, off + (i * 4 + 0), none⟩ = some u0 ∧ DataW.trod enc P w base spare held n f0.type [u0] = some y0) ∧ (w.cell? ⟨b, off + (i * 4 + 1), none⟩ = some u1 ∧ DataW.trod enc P w base spare held n f1.type [u1] = some y1) ∧
      (w.cell? ⟨b, off + (i * 4 + 2), none⟩ = some u2 ∧ DataW.trod enc P w base spare held n f2.type [u2] = some y2) ∧ (w.cell? ⟨b, off + (i * 4 + 3), none⟩ = some u3 ∧ DataW.trod enc P w base spare held n f3.type [u3] = some y3) := by
  rcases open_slice ht h with ⟨hcs, _⟩ | ⟨a, l, c, m, n, D, Pl, hcs, hb, hl, hm, hmm, hx, hi⟩
  · simp at hcs
    obtain ⟨rfl, rfl, rfl⟩ := hcs
    exact ⟨Nat.zero_le _, 0, 0, fun h => absurd h (by omega), fun i h => absurd h (by omega)⟩
  · simp at hcs
    obtain ⟨rfl, rfl, rfl⟩ := hcs
    rw [hC] at hi
    have hlm : len ≤ m := by rw [hmm]; split <;> omega
    obtain ⟨o0, k0⟩ := hone_of hone 0 f0 rfl
    obtain ⟨o1, k1⟩ := hone_of hone 1 f1 rfl
    obtain ⟨o2, k2⟩ := hone_of hone 2 f2 rfl
    obtain ⟨o3, k3⟩ := hone_of hone 3 f3 rfl
    have each : ∀ i, i < len → ∃ (n : Nat) (u0 u1 u2 u3 : Value) (y0 y1 y2 y3 : DataW H × List MemPlace),
      (w.cell? ((a.add (i * 4)).add 0) = some u0 ∧ DataW.trod enc P w base spare held n f0.type [u0] = some y0) ∧ (w.cell? ((a.add (i * 4)).add 1) = some u1 ∧ DataW.trod enc P w base spare held n f1.type [u1] = some y1) ∧
      (w.cell? ((a.add (i * 4)).add 2) = some u2 ∧ DataW.trod enc P w base spare held n f2.type [u2] = some y2) ∧ (w.cell? ((a.add (i * 4)).add 3) = some u3 ∧ DataW.trod enc P w base spare held n f3.type [u3] = some y3) := by
      intro i him
      obtain ⟨cs', hc, ht'⟩ := hi i (by omega)
      obtain ⟨_, hcl, hat⟩ := World.cells?_some hc
      obtain ⟨xs, n', _, _, _, hxl, hf⟩ := DataW.trod_struct he ht'
      match cs', hcl with
      | [u0, u1, u2, u3], _ =>
        match xs, hxl with
        | [y0, y1, y2, y3], _ =>
          have t0 := hf 0 f0 rfl
          have t1 := hf 1 f1 rfl
          have t2 := hf 2 f2 rfl
          have t3 := hf 3 f3 rfl
          rw [o0, k0] at t0
          rw [o1, k1] at t1
          rw [o2, k2] at t2
          rw [o3, k3] at t3
          exact ⟨n', u0, u1, u2, u3, y0, y1, y2, y3, ⟨hat 0 (by omega), t0⟩, ⟨hat 1 (by omega), t1⟩, ⟨hat 2 (by omega), t2⟩, ⟨hat 3 (by omega), t3⟩⟩
    by_cases hn : 0 < len
    · obtain ⟨n0, u0, _, _, _, _, _, _, _, ⟨hc0, _⟩, _⟩ := each 0 hn
      have : ∃ b off, a = ⟨b, off, none⟩ ∧ b < w.heap.size := by
        rw [Nat.zero_mul] at hc0
        have e : (a.add 0).add 0 = a.add 0 := by unfold Addr.add; simp
        rw [e] at hc0
        exact addr_form hc0
      obtain ⟨b, off, rfl, hb'⟩ := this
      refine ⟨by omega, off, b, fun _ => ⟨rfl, hb'⟩, fun i hi => ?_⟩
      have := each i hi
      simp only [add_form, Nat.add_assoc] at this
      exact this
    · exact ⟨by omega, 0, 0, fun h => absurd h hn, fun i h => absurd h (by omega)⟩

theorem rows4_rd {α : Type} (f : α → List Value) (hf : ∀ a, (f a).length = 4) {A : Option Addr} {len off b : Nat} (hA : 0 < len → A = some ⟨b, off, none⟩ ∧ b < w.heap.size) (l : List α) (hl : l.length = len)
    (hq : ∀ i a, l[i]? = some a → ∀ j u, (f a)[j]? = some u → w.cell? ⟨b, off + (i * 4 + j), none⟩ = some u) : Rd w 4 A len (l.flatMap f) := by
  refine ⟨by rw [flat_len f 4 hf, hl], fun hn => ?_⟩
  obtain ⟨e, hb⟩ := hA hn
  refine ⟨b, off, e, hb, fun j u hu => ?_⟩
  rw [flat_get f 4 (by omega) hf] at hu
  obtain ⟨a, ha, hu⟩ := Option.bind_eq_some_iff.1 hu
  have := hq _ a ha _ u hu
  rwa [show j / 4 * 4 + j % 4 = j by omega] at this

theorem open_pipes_of {t e ti : TypeId} {f0 f1 f2 f3 : Field} {A : Option Addr} {len cap : Nat} {fuel : Nat} {x : DataW H × List MemPlace} (ht : P.underlying t = some (.slice e)) (he : P.underlying e = some (.struct #[f0, f1, f2, f3]))
    (hone : oneCellFields P #[f0, f1, f2, f3] = true) (hC : P.cellsOf e = 4) (h0 : f0.type = ti) (h1 : f1.type = ti) (h2 : f2.type = ti) (h3 : f3.type = ti) (hi : P.underlying ti = some (.int .i64))
    (h : DataW.trod enc P w base spare held fuel t [.slice A len cap] = some x) :
    ∃ ps : List Pp, ps.length = len ∧ Rd w 4 A len (pipesV ps) ∧ len ≤ maxLen ∧ ∀ p ∈ ps, p.wf := by
  obtain ⟨hm, off, b, hA, each⟩ := open_rows4 ht he hone hC h
  obtain ⟨ps, hl, hq⟩ := list_of_all (fun i (p : Pp) => p.wf ∧ ∀ j u, p.vals[j]? = some u → w.cell? ⟨b, off + (i * 4 + j), none⟩ = some u) len (fun i hi' => by
    obtain ⟨n, u0, u1, u2, u3, y0, y1, y2, y3, ⟨c0, t0⟩, ⟨c1, t1⟩, ⟨c2, t2⟩, ⟨c3, t3⟩⟩ := each i hi'
    rw [h0] at t0
    rw [h1] at t1
    rw [h2] at t2
    rw [h3] at t3
    obtain ⟨a, e0, _, wa⟩ := DataW.trod_int hi t0
    obtain ⟨b', e1, _, wb⟩ := DataW.trod_int hi t1
    obtain ⟨c, e2, _, wc⟩ := DataW.trod_int hi t2
    obtain ⟨d', e3, _, wd⟩ := DataW.trod_int hi t3
    simp at e0 e1 e2 e3
    subst e0 e1 e2 e3
    refine ⟨⟨a, b', c, d'⟩, ⟨wa, wb, wc, wd⟩, fun j u hu => ?_⟩
    match j, hu with
    | 0, hu => simp [Pp.vals] at hu; subst hu; exact c0
    | 1, hu => simp [Pp.vals] at hu; subst hu; exact c1
    | 2, hu => simp [Pp.vals] at hu; subst hu; exact c2
    | 3, hu => simp [Pp.vals] at hu; subst hu; exact c3
    | j + 4, hu => simp [Pp.vals] at hu)
  refine ⟨ps, hl, rows4_rd Pp.vals (fun _ => rfl) hA ps hl (fun i a ha => (hq i a ha).2), hm, fun p hp => ?_⟩
  obtain ⟨i, hi', rfl⟩ := List.getElem_of_mem hp
  exact (hq i _ (List.getElem?_eq_getElem hi')).1

theorem open_valves_of {t e ti tb : TypeId} {f0 f1 f2 f3 : Field} {A : Option Addr} {len cap : Nat} {fuel : Nat} {x : DataW H × List MemPlace} (ht : P.underlying t = some (.slice e)) (he : P.underlying e = some (.struct #[f0, f1, f2, f3]))
    (hone : oneCellFields P #[f0, f1, f2, f3] = true) (hC : P.cellsOf e = 4) (h0 : f0.type = ti) (h1 : f1.type = ti) (h2 : f2.type = ti) (h3 : f3.type = tb) (hi : P.underlying ti = some (.int .i64)) (hbo : P.underlying tb = some .bool)
    (h : DataW.trod enc P w base spare held fuel t [.slice A len cap] = some x) :
    ∃ ps : List Vv, ps.length = len ∧ Rd w 4 A len (valvesV ps) ∧ len ≤ maxLen ∧ ∀ p ∈ ps, p.wf := by
  obtain ⟨hm, off, b, hA, each⟩ := open_rows4 ht he hone hC h
  obtain ⟨ps, hl, hq⟩ := list_of_all (fun i (p : Vv) => p.wf ∧ ∀ j u, p.vals[j]? = some u → w.cell? ⟨b, off + (i * 4 + j), none⟩ = some u) len (fun i hi' => by
    obtain ⟨n, u0, u1, u2, u3, y0, y1, y2, y3, ⟨c0, t0⟩, ⟨c1, t1⟩, ⟨c2, t2⟩, ⟨c3, t3⟩⟩ := each i hi'
    rw [h0] at t0
    rw [h1] at t1
    rw [h2] at t2
    rw [h3] at t3
    obtain ⟨a, e0, _, wa⟩ := DataW.trod_int hi t0
    obtain ⟨b', e1, _, wb⟩ := DataW.trod_int hi t1
    obtain ⟨c, e2, _, wc⟩ := DataW.trod_int hi t2
    obtain ⟨d', e3, _⟩ := DataW.trod_bool hbo t3
    simp at e0 e1 e2 e3
    subst e0 e1 e2 e3
    refine ⟨⟨a, b', c, d'⟩, ⟨wa, wb, wc⟩, fun j u hu => ?_⟩
    match j, hu with
    | 0, hu => simp [Vv.vals] at hu; subst hu; exact c0
    | 1, hu => simp [Vv.vals] at hu; subst hu; exact c1
    | 2, hu => simp [Vv.vals] at hu; subst hu; exact c2
    | 3, hu => simp [Vv.vals] at hu; subst hu; exact c3
    | j + 4, hu => simp [Vv.vals] at hu)
  refine ⟨ps, hl, rows4_rd Vv.vals (fun _ => rfl) hA ps hl (fun i a ha => (hq i a ha).2), hm, fun p hp => ?_⟩
  obtain ⟨i, hi', rfl⟩ := List.getElem_of_mem hp
  exact (hq i _ (List.getElem?_eq_getElem hi')).1

theorem open_pipes {t e ti : TypeId} {f0 f1 f2 f3 : Field} {A : Option Addr} {len cap : Nat} {d : DataW H} {p : List MemPlace} (ht : P.underlying t = some (.slice e)) (he : P.underlying e = some (.struct #[f0, f1, f2, f3]))
    (hone : oneCellFields P #[f0, f1, f2, f3] = true) (hC : P.cellsOf e = 4) (h0 : f0.type = ti) (h1 : f1.type = ti) (h2 : f2.type = ti) (h3 : f3.type = ti) (hi : P.underlying ti = some (.int .i64))
    (h : DataW.Trod enc P w base spare held t (.slice A len cap) d p) :
    ∃ ps : List Pp, ps.length = len ∧ Rd w 4 A len (pipesV ps) ∧ len ≤ maxLen ∧ ∀ p ∈ ps, p.wf := by
  obtain ⟨fuel, hf⟩ := h
  exact open_pipes_of ht he hone hC h0 h1 h2 h3 hi (show DataW.trod enc P w base spare held fuel t [.slice A len cap] = some (d, p) from hf)
theorem open_valves {t e ti tb : TypeId} {f0 f1 f2 f3 : Field} {A : Option Addr} {len cap : Nat} {d : DataW H} {p : List MemPlace} (ht : P.underlying t = some (.slice e)) (he : P.underlying e = some (.struct #[f0, f1, f2, f3]))
    (hone : oneCellFields P #[f0, f1, f2, f3] = true) (hC : P.cellsOf e = 4) (h0 : f0.type = ti) (h1 : f1.type = ti) (h2 : f2.type = ti) (h3 : f3.type = tb) (hi : P.underlying ti = some (.int .i64)) (hbo : P.underlying tb = some .bool)
    (h : DataW.Trod enc P w base spare held t (.slice A len cap) d p) :
    ∃ ps : List Vv, ps.length = len ∧ Rd w 4 A len (valvesV ps) ∧ len ≤ maxLen ∧ ∀ p ∈ ps, p.wf := by
  obtain ⟨fuel, hf⟩ := h
  exact open_valves_of ht he hone hC h0 h1 h2 h3 hi hbo (show DataW.trod enc P w base spare held fuel t [.slice A len cap] = some (d, p) from hf)

/-- A struct of one field, a slice of whole numbers. -/
theorem open_profile {r : Reach} {b0 : Nat} {t ts ti : TypeId} {f0 : Field} {v : Value} {d : DataW H} {p : List MemPlace} (hs : P.underlying t = some (.struct #[f0])) (hone : oneCellFields P #[f0] = true) (hC : P.cellsOf t = 1)
    (h0 : f0.type = ts) (hsl : P.underlying ts = some (.slice ti)) (hi : P.underlying ti = some (.int .i64)) (hc : P.cellsOf ti = 1) (hv : Value.okWide P w r b0 t v) (h : DataW.Trod enc P w base spare held t v d p) :
    ∃ (A : Option Addr) (len cap : Nat) (zs : List Int), v = .agg #[.slice A len cap] ∧ zs.length = len ∧ Rd w 1 A len (intsV zs) ∧ len ≤ maxLen ∧ ∀ n ∈ zs, wf64 n := by
  obtain ⟨cs, rfl, hsz⟩ := okWide_struct hs hv
  rw [hC] at hsz
  obtain ⟨l⟩ := cs
  match l, hsz with
  | [c0], _ =>
    obtain ⟨fuel, hf⟩ := h
    obtain ⟨xs, n, _, _, _, hlen, hg⟩ := DataW.trod_struct hs hf
    obtain ⟨o0, k0⟩ := hone_of hone 0 f0 rfl
    match xs, hlen with
    | [y0], _ =>
      have t0 : DataW.trod enc P w base spare held n f0.type [c0] = some y0 := by simpa [Value.cells, o0, k0] using hg 0 f0 rfl
      rw [h0] at t0
      have hform : ∃ A len cap, c0 = .slice A len cap := by
        rcases DataW.trod_slice hsl t0 with ⟨e, _⟩ | ⟨a, l, c, _, _, _, _, e, _⟩
        · simp at e; exact ⟨_, _, _, e⟩
        · simp at e; exact ⟨_, _, _, e⟩
      obtain ⟨A, len, cap, rfl⟩ := hform
      obtain ⟨zs, hz, hr, hm, hw⟩ := open_nums (enc := enc) (w := w) (base := base) (spare := spare) (held := held) (A := A) (len := len) (cap := cap) (d := y0.1) (p := y0.2) hsl hi hc ⟨n, t0⟩
      exact ⟨A, len, cap, zs, rfl, hz, hr, hm, hw⟩

/-- A struct of a whole number and a slice of pipes. -/
theorem open_network {r : Reach} {b0 : Nat} {t ts e ti : TypeId} {g0 g1 f0 f1 f2 f3 : Field} {v : Value} {d : DataW H} {p : List MemPlace} (hs : P.underlying t = some (.struct #[g0, g1])) (hone : oneCellFields P #[g0, g1] = true) (hC : P.cellsOf t = 2)
    (k0 : g0.type = ti) (k1 : g1.type = ts) (hi : P.underlying ti = some (.int .i64)) (hsl : P.underlying ts = some (.slice e)) (he : P.underlying e = some (.struct #[f0, f1, f2, f3])) (hone' : oneCellFields P #[f0, f1, f2, f3] = true) (hC' : P.cellsOf e = 4)
    (h0 : f0.type = ti) (h1 : f1.type = ti) (h2 : f2.type = ti) (h3 : f3.type = ti) (hv : Value.okWide P w r b0 t v) (h : DataW.Trod enc P w base spare held t v d p) :
    ∃ (n : Int) (A : Option Addr) (len cap : Nat) (ps : List Pp), v = .agg #[.int .i64 n, .slice A len cap] ∧ wf64 n ∧ ps.length = len ∧ Rd w 4 A len (pipesV ps) ∧ len ≤ maxLen ∧ ∀ p ∈ ps, p.wf := by
  obtain ⟨v0, v1, y0, y1, m, rfl, _, _, t0, t1⟩ := open_agg2 hs hone hC hv h
  rw [k0] at t0
  rw [k1] at t1
  obtain ⟨n, e0, _, wn⟩ := DataW.trod_int hi t0
  simp at e0
  subst e0
  have hform : ∃ A len cap, v1 = .slice A len cap := by
    rcases DataW.trod_slice hsl t1 with ⟨e, _⟩ | ⟨a, l, c, _, _, _, _, e, _⟩
    · simp at e; exact ⟨_, _, _, e⟩
    · simp at e; exact ⟨_, _, _, e⟩
  obtain ⟨A, len, cap, rfl⟩ := hform
  obtain ⟨ps, hl, hr, hm, hw⟩ := open_pipes_of hsl he hone' hC' h0 h1 h2 h3 hi t1
  exact ⟨n, A, len, cap, ps, rfl, wn, hl, hr, hm, hw⟩

end

end Go.Proofs.YtdlcldaogcbnlaaDoor
