/- Rows of valves of the call's own: read, written; lists that a call has made. No program is named here. -/
import Derived.Test.YtnfmdkbelbppdaaSch7
import Derived.Test.YtnfmdkbelbppdaaValP
namespace Go.Proofs.Ytnfmdkbelbppdaa
open Go.RowKit
set_option linter.unusedVariables false

theorem take_splice {α : Type} (l ns : List α) (j N : Nat) (h : j + ns.length ≤ N) (hN : N ≤ l.length) : (l.take j ++ ns ++ l.drop (j + ns.length)).take N = (l.take N).take j ++ ns ++ (l.take N).drop (j + ns.length) := by
  have h1 : (l.take j).length = j := by rw [List.length_take]; omega
  rw [List.append_assoc, List.take_append, List.take_append, h1, List.take_take, List.take_take, List.drop_take, List.take_of_length_le (by omega : ns.length ≤ N - j), List.append_assoc, show min j N = j by omega, show min N j = j by omega, show N - j - ns.length = N - (j + ns.length) by omega]
section
variable {P : Program} {ops : Array Oper} {Q : Exit → Act → World → Prop} {W : World} {row : Option Nat} {S : World → Prop}
/-- A store of several cells into a row of the call's own. -/
theorem W.sst {i : Nat} {π : Sch} {l : List Value} {w : World} {o : Oper} {ty e : TypeId} {x y : Operand} {base size g j n c : Nat} {u : Value} {xs news : List Value} (hS : SG W row w) (hi : ops[i]? = some o) (hw : Region.wanted o (yielded ops l.toArray) = true) (hd : o.dst = none)
    (ho : o.op = .store ty x y) (hx : (Act.mk l.toArray []).eval x = .pointer (some ⟨g, j, none⟩)) (hy : (Act.mk l.toArray []).eval y = u) (how : w.ownsRow base e size (.slice (some ⟨g, 0, none⟩) n c) n xs) (hv : u.cells.toList = news) (hs : sizeB P ty = some news.length)
    (h1 : news.all (·.oneCell') = true) (hj : j + news.length ≤ n * size) (hrow : some g = row ∨ W.heap.size ≤ g)
    (h : ∀ w', w'.ownsRow base e size (.slice (some ⟨g, 0, none⟩) n c) n (xs.take j ++ news ++ xs.drop (j + news.length)) → w.grownBy w' (some g) → SG W row w' → Ws P ops Q (SG W row) π l w') : Ws P ops Q (SG W row) (.cons (i, true) π) l w := by
  rcases how.2 with ⟨h', _⟩ | ⟨g', cap', cur, h', hb, hg, hnc, hcm, hcs, htake⟩
  · simp at h'
  · simp only [Value.slice.injEq, Option.some.injEq, Addr.mk.injEq, and_true, true_and] at h'
    obtain ⟨rfl, rfl⟩ := h'
    have hle : n * size ≤ cur.toList.length := by rw [Array.length_toList, hcs]; exact Nat.mul_le_mul_right _ hnc
    have hle' : j + news.length ≤ cur.size := by rw [Array.length_toList] at hle; omega
    refine Go.Proofs.Ytnfmdkbelbppdaa.W.ss (cs := cur) (cs' := (cur.toList.take j ++ news ++ cur.toList.drop (j + news.length)).toArray) hS hi hw hd ho hx hy hg hv hs hle' h1 rfl hrow (fun w' k1 k2 k3 => h w' ⟨?_, .inr ⟨g, c, _, rfl, hb, k2, hnc, hcm, ?_, ?_⟩⟩ k1 k3)
    · have := how.1
      simp only [List.length_append, List.length_take, List.length_drop]; omega
    · rw [List.size_toArray]; simp only [List.length_append, List.length_take, List.length_drop, Array.length_toList]; omega
    · rw [List.toList_toArray, take_splice _ _ _ _ hj hle, htake]
end
theorem valves_one (vs : List Vv) : ∀ u ∈ valvesV vs, u.oneCell' = true := fun u hu => by
  unfold valvesV at hu; obtain ⟨p, _, hp⟩ := List.mem_flatMap.1 hu
  simp [Vv.vals] at hp
  rcases hp with rfl | rfl | rfl | rfl <;> rfl
theorem own_joinV {w : World} {base : Nat} {e : TypeId} {v : Value} {n : Nat} {zs ys : List Vv} (h : w.ownsRow base e 4 v n (valvesV zs ++ valvesV ys)) : w.ownsRow base e 4 v n (valvesV (zs ++ ys)) := by
  simpa [valvesV] using h
theorem own_snocV {w : World} {base : Nat} {e : TypeId} {v : Value} {n : Nat} {vs : List Vv} {x : Vv} (h : w.ownsRow base e 4 v n (valvesV vs ++ (#[Value.int .i64 x.id, .int .i64 x.pipe, .int .i64 x.node, .bool x.shut] : Array Value).toList)) : w.ownsRow base e 4 v n (valvesV (vs ++ [x])) := by
  simpa [valvesV, Vv.vals] using h
theorem valvesV_set : ∀ {vs : List Vv} {k : Nat} {x0 : Vv}, vs[k]? = some x0 → ∀ x : Vv, (valvesV vs).take (k * 4) ++ x.vals ++ (valvesV vs).drop (k * 4 + 4) = valvesV (vs.set k x)
  | [], k, x0, h, x => by simp at h
  | y :: vs, 0, x0, h, x => by simp [valvesV, Vv.vals]
  | y :: vs, k + 1, x0, h, x => by
    have ih := valvesV_set (vs := vs) (k := k) (x0 := x0) (by simpa using h) x
    simp only [valvesV, List.flatMap_cons, List.set_cons_succ] at ih ⊢
    rw [← ih, show (k + 1) * 4 = k * 4 + 4 by omega]
    simp [Vv.vals]
theorem valvesV_shut : ∀ {vs : List Vv} {k : Nat} {x : Vv}, vs[k]? = some x → ∀ b : Bool, (valvesV vs).take (k * 4 + 3) ++ [Value.bool b] ++ (valvesV vs).drop (k * 4 + 3 + 1) = valvesV (vs.set k { x with shut := b })
  | [], k, x0, h, b => by simp at h
  | y :: vs, 0, x0, h, b => by simp at h; subst h; simp [valvesV, Vv.vals]
  | y :: vs, k + 1, x0, h, b => by
    have ih := valvesV_shut (vs := vs) (k := k) (x := x0) (by simpa using h) b
    simp only [valvesV, List.flatMap_cons, List.set_cons_succ] at ih ⊢
    rw [← ih, show (k + 1) * 4 + 3 = k * 4 + 3 + 4 by omega, show k * 4 + 3 + 4 + 1 = k * 4 + 3 + 1 + 4 by omega]
    simp [Vv.vals]
theorem own_setV {w : World} {base : Nat} {e : TypeId} {v : Value} {n k : Nat} {vs : List Vv} {x0 : Vv} (hx : vs[k]? = some x0) (x : Vv) (h : w.ownsRow base e 4 v n ((valvesV vs).take (0 + k * 4) ++ x.vals ++ (valvesV vs).drop (0 + k * 4 + 4))) : w.ownsRow base e 4 v n (valvesV (vs.set k x)) := by
  rw [Nat.zero_add, valvesV_set hx] at h; exact h
theorem own_setS {w : World} {base : Nat} {e : TypeId} {v : Value} {n k : Nat} {vs : List Vv} {x : Vv} (hx : vs[k]? = some x) {b : Bool} (h : w.ownsRow base e 4 v n ((valvesV vs).take (0 + k * 4 + 3) ++ [.bool b] ++ (valvesV vs).drop (0 + k * 4 + 3 + 1))) : w.ownsRow base e 4 v n (valvesV (vs.set k { x with shut := b })) := by
  rw [Nat.zero_add, valvesV_shut hx] at h; exact h
theorem own_atV {w : World} {base g n c : Nat} {e : TypeId} {vs : List Vv} {k : Nat} {x : Vv} (h : w.ownsRow base e 4 (.slice (some ⟨g, 0, none⟩) n c) n (valvesV vs)) (hx : vs[k]? = some x) :
    w.cell? ⟨g, 0 + k * 4, none⟩ = some (.int .i64 x.id) ∧ w.cell? ⟨g, 0 + k * 4 + 1, none⟩ = some (.int .i64 x.pipe) ∧ w.cell? ⟨g, 0 + k * 4 + 2, none⟩ = some (.int .i64 x.node) ∧ w.cell? ⟨g, 0 + k * 4 + 3, none⟩ = some (.bool x.shut) := by
  have hl := h.1
  rw [valvesV_len] at hl
  have hk := (List.getElem?_eq_some_iff.1 hx).1
  refine ⟨?_, ?_, ?_, ?_⟩
  · rw [h.cellAt _ (by omega)]; have := valvesV_at vs k 0 (by omega); rw [hx] at this; rw [Nat.zero_add]; exact this
  · rw [h.cellAt _ (by omega), Nat.zero_add, valvesV_at vs k 1 (by omega), hx]; rfl
  · rw [h.cellAt _ (by omega), Nat.zero_add, valvesV_at vs k 2 (by omega), hx]; rfl
  · rw [h.cellAt _ (by omega), Nat.zero_add, valvesV_at vs k 3 (by omega), hx]; rfl
/-! ### lists that are fresh -/
theorem sp_freshB {w' : World} {base size n c g : Nat} {e : TypeId} {A : Option Addr} {xs : List Value} (how : w'.ownsRow base e size (.slice A n c) n xs) (h : g < base) : Sp A n (some g) := fun hn b off ea e2 => by
  have := (World.ownsRow.lt how b (by rw [ea]; simp [Value.ownBlock])).1
  cases e2; omega
theorem sp_freshR {w' : World} {base size n c : Nat} {e : TypeId} {A : Option Addr} {xs : List Value} (how : w'.ownsRow base e size (.slice A n c) n xs) {u : Value} (h : ∀ j, u.ownBlock = some j → j < base) : Sp A n u.ownBlock := fun hn b off ea e2 => by
  have := (World.ownsRow.lt how b (by rw [ea]; simp [Value.ownBlock])).1
  have := h b e2.symm; omega
theorem sp_ptrB {b g n : Nat} (h : g < b) : Sp (some ⟨b, 0, none⟩) n (some g) := fun _ b' off ea e2 => by cases ea; cases e2; omega
theorem sp_ptrR {b n : Nat} {u : Value} (h : ∀ j, u.ownBlock = some j → j < b) : Sp (some ⟨b, 0, none⟩) n u.ownBlock := fun _ b' off ea e2 => by cases ea; have := h b e2.symm; omega

end Go.Proofs.Ytnfmdkbelbppdaa
