/- Slices of whole numbers: the laws' helpers: equality, marks; append. -/
import Derived.Test.YtdlcldaogcbnlaaDoorProg
import Derived.Test.YtdlcldaogcbnlaaDoorRow
namespace Go.Proofs.YtdlcldaogcbnlaaDoor
open Go.RowKit
set_option linter.unusedVariables false

theorem intInfo : (Tryd.prog.info? 3).map (fun i => (i.zero, i.size, i.bytes)) = some (some (.int .i64 0), 1, 8) := by kernel_rfl

/-- What a mark leaves: the row holds the numbers from k0 on; nothing else has turned. -/
def Marked (w : World) (base : Nat) (A : Option Addr) (n c : Nat) (k0 : Int) (e : Ending) (w' : World) : Prop :=
  e = .returned (.int .i64 (k0 + n)) ∧ w'.ownsRow base 3 1 (.slice A n c) n (intsV (upFrom k0 n)) ∧ w.grownBy w' (Value.slice A n c).ownBlock
theorem up_set {zs : List Int} {k0 : Int} {n k : Nat} (hl : zs.length = n) (hk : k < n) :
    (intsV (upFrom k0 k) ++ intsV (zs.drop k)).set k (.int .i64 (k0 + k)) = intsV (upFrom k0 (k + 1)) ++ intsV (zs.drop (k + 1)) := by
  have hlen : (intsV (upFrom k0 k)).length = k := by simp [intsV, upFrom]
  rw [List.set_append_right _ _ (by omega), hlen, Nat.sub_self, List.drop_eq_getElem_cons (show k < zs.length by omega)]
  simp only [List.set_cons_zero, intsV, List.map_cons, upFrom, List.range_succ, List.map_append, List.map_nil, List.append_assoc, List.singleton_append]
theorem append_int {ops : Array Oper} {rest : List Oper} {o : Oper} {a : Act} {Q : Exit → Act → World → Prop} (w : World) (hgd : o.guard = none) (s x : Operand)
    (ho : o.op = .call { callee := .builtin .append, args := #[s, x], argTypes := #[43, 43] }) (base : Nat) (v : Value) (n : Nat) (xs : List Value) (hs : a.eval s = v) (hown : w.ownsRow base 3 1 v n xs)
    (B : Nat) (z : Int) (hx : a.eval x = .slice (some ⟨B, 0, none⟩) 1 1) (hz : w.cell? ⟨B, 0, none⟩ = some (.int .i64 z)) (hn : n ≤ 1000000000) (hb : base ≤ w.heap.size)
    (h : ∀ g cap w', w'.ownsRow base 3 1 (.slice (some ⟨g, 0, none⟩) (n + 1) cap) (n + 1) (xs ++ [.int .i64 z]) → w.grownBy w' v.ownBlock → (v.ownBlock = some g ∨ g = w.heap.size) → wpList Tryd.prog ops Q rest (a.put o.dst (.slice (some ⟨g, 0, none⟩) (n + 1) cap)) w') : wpList Tryd.prog ops Q (o :: rest) a w := by
  obtain ⟨i0, hi, hz0, hz1, hz2⟩ := info_parts intInfo
  refine wpList_append_lies w hgd s x 43 ho base 3 i0 (.int .i64 0) 1 8 Tryd.underlying43 hi hz0 hz1 hz2 rfl (by decide) v n xs hs hown ⟨B, 0, none⟩ 1 1 [.int .i64 z] hx rfl ?_ ?_ (by decide) (by unfold maxLen; omega) (by omega) hb _ rfl (fun g cap w' h1 h2 h3 _ => h g cap w' h1 h2 h3)
  · intro j u hu
    rcases j with _ | j
    · simp at hu; subst hu; exact hz
    · simp at hu
  · intro u hu
    simp at hu; subst hu; rfl
theorem step_int {ops : Array Oper} {o : Oper} {a : Act} {K : Act → World → Prop} {Q : Exit → Act → World → Prop} {E : Prop} (w : World) (hgd : o.guard = none) (s x : Operand)
    (ho : o.op = .call { callee := .builtin .append, args := #[s, x], argTypes := #[43, 43] }) (base : Nat) (v : Value) (n : Nat) (xs : List Value) (hs : a.eval s = v) (hown : w.ownsRow base 3 1 v n xs)
    (B : Nat) (z : Int) (hx : a.eval x = .slice (some ⟨B, 0, none⟩) 1 1) (hz : w.cell? ⟨B, 0, none⟩ = some (.int .i64 z)) (hn : n ≤ 1000000000) (hb : base ≤ w.heap.size) (H : Nat) (hH : w.heap.size = H)
    (h : ∀ g cap w', w'.ownsRow base 3 1 (.slice (some ⟨g, 0, none⟩) (n + 1) cap) (n + 1) (xs ++ [.int .i64 z]) → w.grownBy w' v.ownBlock → (v.ownBlock = some g ∨ g = H) → K (a.put o.dst (.slice (some ⟨g, 0, none⟩) (n + 1) cap)) w') : if Region.wanted o (yielded ops a.tmps) = true then Oper.wp Tryd.prog o a w K Q else E := by
  obtain ⟨i0, hi, hz0, hz1, hz2⟩ := info_parts intInfo
  refine step_append_lies w hgd s x 43 ho base 3 i0 (.int .i64 0) 1 8 Tryd.underlying43 hi hz0 hz1 hz2 rfl (by decide) v n xs hs hown ⟨B, 0, none⟩ 1 1 [.int .i64 z] hx rfl ?_ ?_ (by decide) (by unfold maxLen; omega) (by omega) hb H hH (fun g cap w' h1 h2 h3 _ => h g cap w' h1 h2 h3)
  · intro j u hu
    rcases j with _ | j
    · simp at hu; subst hu; exact hz
    · simp at hu
  · intro u hu
    simp at hu; subst hu; rfl

end Go.Proofs.YtdlcldaogcbnlaaDoor
