/- Package-level variables that a row lists: what their cells hold; named variables read again in a later world. No program is named here. -/
import Derived.Test.YtdlcldaogcbnlaaDoorOpen
import Derived.Lib.LaidTab
import Derived.MakeChecks
import Derived.Deep.DeepHandedRow
import Derived.Deep.DeepWitnessRowRef
namespace Go.Proofs.YtdlcldaogcbnlaaDoor
open Go.RowKit Go.ChangeShapes Go.WideShapes Go.Deep Go.Joins
set_option linter.unusedVariables false

theorem laid_mem {P : Program} {w : World} : ∀ {l : List (String × DataW Unit)} {ps : List MemPlace} {n : String} {d : DataW Unit}, DataW.LaidVars P w l ps → (n, d) ∈ l →
    ∃ g t cs fuel p, P.globalNamed n = some g ∧ (P.globals[g]?).map (·.type) = some t ∧ w.var? P n = some cs ∧ DataW.trod (fun _ => ()) P w 0 (fun _ => true) false fuel t cs.toList = some (d, p)
  | [], _, _, _, _, hm => by cases hm
  | (n', d') :: r, ps, n, d, h, hm => by
    obtain ⟨g, t, cs, fuel, p, q, h1, h2, h3, h4, h5, _⟩ := h
    cases hm with
    | head => exact ⟨g, t, cs, fuel, p, h1, h2, h3, h4⟩
    | tail _ hm => exact laid_mem h5 hm
theorem laid_of {P : Program} {w : World} {l : List (String × DataW Unit)} {n : String} {d : DataW Unit} {g : Nat} {t : TypeId} (hp : (l.all fun x => x.2.handleName?.isNone) = true) (h : laidMetH P l w) (hm : (n, d) ∈ l)
    (hg : P.globalNamed n = some g) (ht : (P.globals[g]?).map (·.type) = some t) : ∃ cs fuel p, w.var? P n = some cs ∧ DataW.trod (fun _ => ()) P w 0 (fun _ => true) false fuel t cs.toList = some (d, p) ∧ ∀ i, w.cell? ⟨g, i, none⟩ = cs[i]? := by
  rw [MakeChecks.laidMetH_plain _ _ _ hp] at h
  obtain ⟨ps, hl, _⟩ := h
  obtain ⟨g', t', cs, fuel, p, h1, h2, h3, h4⟩ := laid_mem hl hm
  obtain rfl := Option.some.inj (hg.symm.trans h1)
  obtain rfl := Option.some.inj (ht.symm.trans h2)
  exact ⟨cs, fuel, p, h3, h4, fun i => World.var?_cell hg h3 i⟩

section
variable {H : Type} {enc : TypeId × Value → H} {P : Program} {w : World} {base : Nat} {spare : Nat → Bool} {held : Bool}

theorem tab_pairs {fuel : Nat} {t e ti : TypeId} {n : Nat} {f0 f1 : Field} {cs : List Value} {p : List MemPlace} (pairs : List (Int × Int)) (ht : P.underlying t = some (.array n e)) (he : P.underlying e = some (.struct #[f0, f1])) (hone : oneCellFields P #[f0, f1] = true)
    (hC : P.cellsOf e = 2) (h0 : f0.type = ti) (h1 : f1.type = ti) (hi : P.underlying ti = some (.int .i64)) (hn : pairs.length = n)
    (h : DataW.trod enc P w base spare held fuel t cs = some (.agg (pairs.map fun q => .agg [.lit (.int .i64 q.1), .lit (.int .i64 q.2)]), p)) :
    ∀ i a b, pairs[i]? = some (a, b) → cs[i * 2]? = some (.int .i64 a) ∧ cs[i * 2 + 1]? = some (.int .i64 b) := by
  obtain ⟨xs, m, _, hx, _, hlen, hel⟩ := DataW.trod_array ht h
  simp only [Prod.mk.injEq, DataW.agg.injEq] at hx
  intro i a b hab
  have hin : i < n := by rw [← hn]; exact (List.getElem?_eq_some_iff.1 hab).1
  have hxi : xs[i]? = some (xs[i]'(by omega)) := List.getElem?_eq_getElem (by omega)
  have hd : (xs[i]'(by omega)).1 = .agg [.lit (.int .i64 a), .lit (.int .i64 b)] := by
    have := congrArg (·[i]?) hx.1
    simp only [List.getElem?_map, hab, hxi, Option.map_some, Option.some.injEq] at this
    exact this.symm
  have ht2 := (hel i hin).trans hxi
  rw [hC] at ht2
  obtain ⟨ys, m', _, hy, _, hyl, hf⟩ := DataW.trod_struct he ht2
  obtain ⟨o0, k0⟩ := hone_of hone 0 f0 rfl
  obtain ⟨o1, k1⟩ := hone_of hone 1 f1 rfl
  have t0 := hf 0 f0 rfl
  have t1 := hf 1 f1 rfl
  rw [o0, k0, h0] at t0
  rw [o1, k1, h1] at t1
  match ys, hyl with
  | [y0, y1], _ =>
    have hy1 := congrArg Prod.fst hy
    rw [hd] at hy1
    simp only [List.map_cons, List.map_nil, DataW.agg.injEq, List.cons.injEq, and_true] at hy1
    obtain ⟨a', e0, ha, _⟩ := DataW.trod_int hi (t0.trans (show [y0, y1][0]? = some y0 from rfl))
    obtain ⟨b', e1, hb, _⟩ := DataW.trod_int hi (t1.trans (show [y0, y1][1]? = some y1 from rfl))
    rw [ha, hb] at hy1
    simp only [DataW.lit.injEq, Lit.int.injEq, true_and] at hy1
    obtain ⟨rfl, rfl⟩ := hy1
    have g0 := congrArg (·[0]?) e0
    have g1 := congrArg (·[0]?) e1
    simp only [List.getElem?_take, List.getElem?_drop] at g0 g1
    simp at g0 g1
    exact ⟨by simpa using g0, by simpa using g1⟩

theorem tab_strs {fuel : Nat} {t e : TypeId} {n : Nat} {cs : List Value} {p : List MemPlace} (ss : List (List UInt8)) (ht : P.underlying t = some (.array n e)) (he : P.underlying e = some .string) (hC : P.cellsOf e = 1) (hn : ss.length = n)
    (h : DataW.trod enc P w base spare held fuel t cs = some (.agg (ss.map fun q => DataW.lit (Lit.string q)), p)) :
    ∀ (i : Nat) (s : List UInt8), ss[i]? = some s → cs[i]? = some (Value.string ⟨s.toArray⟩) := by
  obtain ⟨xs, m, _, hx, _, hlen, hel⟩ := DataW.trod_array ht h
  simp only [Prod.mk.injEq, DataW.agg.injEq] at hx
  intro i s hs
  have hin : i < n := by rw [← hn]; exact (List.getElem?_eq_some_iff.1 hs).1
  have hxi : xs[i]? = some (xs[i]'(by omega)) := List.getElem?_eq_getElem (by omega)
  have hd : (xs[i]'(by omega)).1 = .lit (.string s) := by
    have := congrArg (·[i]?) hx.1
    simp only [List.getElem?_map, hs, hxi, Option.map_some, Option.some.injEq] at this
    exact this.symm
  have ht2 := (hel i hin).trans hxi
  rw [hC, Nat.mul_one] at ht2
  obtain ⟨s', e0, hy, _⟩ := DataW.trod_string he ht2
  rw [hy] at hd
  simp only [DataW.lit.injEq, Lit.string.injEq] at hd
  have hs' : s' = ⟨s.toArray⟩ := by cases s'; simp at hd; subst hd; simp
  have g0 := congrArg (·[0]?) e0
  simp only [List.getElem?_take, List.getElem?_drop] at g0
  simp at g0
  rw [g0, hs']

theorem vars_len1 {sp : Nat → Bool} {n0 : String} {gs : List (DataW H)} {ps : List MemPlace} (h : DataW.TrodVars enc P w sp [n0] gs ps) : ∃ g0, gs = [g0] := by
  obtain ⟨_, _, _, _, d, _, e, _⟩ := trodVars_one h
  exact ⟨d, e⟩
theorem vars_len2 {sp : Nat → Bool} {n0 n1 : String} {gs : List (DataW H)} {ps : List MemPlace} (h : DataW.TrodVars enc P w sp [n0, n1] gs ps) : ∃ g0 g1, gs = [g0, g1] := by
  obtain ⟨_, _, _, _, d0, _, _, _, _, _, d1, _, e, _⟩ := trodVars_two h
  exact ⟨d0, d1, e⟩
theorem vars_kept (hl : laidOutB P = true) {W W' : World} (hb : Below W.heap.size W W') : ∀ {ns : List String} {ds : List (DataW H)} {ps : List MemPlace},
    (∀ n ∈ ns, ∀ g t, P.globalNamed n = some g → (P.globals[g]?).map (·.type) = some t → P.readableRec t = true ∧ t < P.types.size) → DataW.TrodVars enc P W (fun _ => true) ns ds ps → DataW.TrodVars enc P W' (fun b => decide (b < W.heap.size)) ns ds ps
  | [], [], ps, _, h => h
  | n :: ns, d :: ds, ps, hr, h => by
    obtain ⟨g, t, cs, fuel, p, q, h1, h2, h3, h4, h5, e⟩ := h
    obtain ⟨r1, r2⟩ := hr n (List.mem_cons_self ..) g t h1 h2
    have hgb : g < W.heap.size := by
      unfold World.var? at h3
      rw [h1] at h3
      simp only [Option.bind_some] at h3
      by_cases hlt : g < W.heap.size
      · exact hlt
      · rw [Array.getElem?_eq_none (by omega)] at h3; cases h3
    have hT : DataW.Trod enc P W 0 (fun _ => true) true t (.agg cs) d p := ⟨fuel, h4⟩
    obtain ⟨fuel', h4'⟩ := Below.trod hl r1 r2 hT hb (fun x hx => DataW.trod_lt fuel t cs.toList (d, p) h4 x hx)
    exact ⟨g, t, cs, fuel', p, q, h1, h2, var?_below hb h1 hgb h3, h4', vars_kept hl hb (fun n' hn' => hr n' (List.mem_cons_of_mem _ hn')) h5, e⟩
  | [], _ :: _, _, _, h => h.elim
  | _ :: _, [], _, _, h => h.elim
end

end Go.Proofs.YtdlcldaogcbnlaaDoor
