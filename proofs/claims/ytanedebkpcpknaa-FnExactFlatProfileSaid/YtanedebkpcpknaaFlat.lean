/- The flat profile: both packages make twenty-four hundreds. -/
import Derived.Test.YtanedebkpcpknaaProf
namespace Go.Proofs.Ytanedebkpcpknaa
open Go.RowKit
set_option linter.unusedVariables false

def FlatProfile_v0 : List Int := List.replicate 24 100
theorem FlatProfile_len : FlatProfile_v0.length ≤ 1048576 := by decide
theorem hundred_snoc (k : Nat) : intsV (List.replicate k 100) ++ [.int .i64 100] = intsV (List.replicate (k + 1) 100) := by
  unfold intsV; rw [List.replicate_succ', List.map_append]; rfl

/-- What lies in memory while a profile is filled: the result's box, the local's box, the row that it holds. -/
structure Filling (w wr : World) (B : Nat) (v : Value) (n : Nat) (xs : List Value) : Prop where
  res : wr.heap[w.heap.size]? = some (.cells #[.slice none 0 0] 24 (0, 0))
  box : wr.heap[B]? = some (.cells #[v] 24 (0, 0))
  own : wr.ownsRow (w.heap.size + 1) 3 1 v n xs
  ne : v.ownBlock ≠ some B
  bel : Below w.heap.size w wr
  lo : w.heap.size < B
  hi : B < wr.heap.size
theorem heap_other (w : World) (a : Addr) (u : Value) (k : Nat) (h : k ≠ a.block) : (w.setCell a u).heap[k]? = w.heap[k]? := Below.heap_setCell w a u k h
/-- Behind an append: the facts at the world that it leaves. -/
structure Filled (w w1 : World) (B g : Nat) (v : Value) : Prop where
  res : w1.heap[w.heap.size]? = some (.cells #[.slice none 0 0] 24 (0, 0))
  box : w1.heap[B]? = some (.cells #[v] 24 (0, 0))
  bel : Below w.heap.size w w1
  ne : g ≠ B
  lo : w.heap.size < B
  hi : B < w1.heap.size
theorem Filling.grown {w wr w1 : World} {B g : Nat} {v : Value} {n : Nat} {xs : List Value} (h : Filling w wr B v n xs) (o : Obj) (hg : (wr.alloc o).grownBy w1 v.ownBlock) (hat : v.ownBlock = some g ∨ g = (wr.alloc o).heap.size) : Filled w w1 B g v := by
  have hs := h.hi
  have hg' := hg.size
  have hl := World.ownsRow.lt h.own
  have h2 := h.lo
  simp at hg'
  refine ⟨?_, ?_, Below.grown (h.bel.alloc (by omega) o) hg (by simp; omega) (fun j e => by have := (hl j e).1; omega), ?_, h2, by omega⟩
  · rw [hg.block w.heap.size (by simp; omega) (fun e => by have := (hl _ e.symm).1; omega), Below.heap_alloc _ _ _ (by omega)]; exact h.res
  · rw [hg.block B (by simp; omega) (fun e => h.ne e.symm), Below.heap_alloc _ _ _ (by omega)]; exact h.box
  · rcases hat with e | e
    · exact fun e' => h.ne (by rw [e, e'])
    · simp at e; omega
theorem Filled.step {w w1 : World} {B g m cap : Nat} {v : Value} {n : Nat} {xs : List Value} (h : Filled w w1 B g v) (ho : w1.ownsRow (w.heap.size + 1) 3 1 (.slice (some ⟨g, 0, none⟩) m cap) n xs) : Filling w (w1.setCell ⟨B, 0, none⟩ (.slice (some ⟨g, 0, none⟩) m cap)) B (.slice (some ⟨g, 0, none⟩) m cap) n xs := by
  have h2 := h.lo
  have h3 := h.hi
  have h4 := h.ne
  exact ⟨by rw [heap_other _ _ _ _ (by simp; omega)]; exact h.res, one_setCell h.box, ownsRow_setCell_other ho (by simpa [Value.ownBlock] using h4) _, by simpa [Value.ownBlock] using h4, h.bel.setCell (by simp; omega) _, h2, by simpa [World.setCell] using h3⟩

theorem Filling.start1 (w : World) : Filling w ((w.alloc (.cells #[.slice none 0 0] 24 (0, 0))).alloc (.cells #[.slice none 0 0] 24 (0, 0))) (w.heap.size + 1) (.slice none 0 0) 0 (intsV (List.replicate 0 100)) :=
  ⟨heap_alloc2_old w _ _, heap_alloc2_new w _ _, ⟨rfl, .inl ⟨rfl, rfl⟩⟩, by simp [Value.ownBlock], below_a2 _ _ _, by omega, by simp⟩
theorem Filling.start2 (w : World) : Filling w (((w.alloc (.cells #[.slice none 0 0] 24 (0, 0))).alloc (.cells #[] 3 (0, 0))).alloc (.cells #[.slice (some ⟨w.heap.size + 1, 0, none⟩) 0 0] 24 (0, 0))) (w.heap.size + 2) (.slice (some ⟨w.heap.size + 1, 0, none⟩) 0 0) 0 (intsV (List.replicate 0 100)) := by
  have e1 : (w.alloc (.cells #[.slice none 0 0] 24 (0, 0))).heap.size = w.heap.size + 1 := by simp
  have e2 : ((w.alloc (.cells #[.slice none 0 0] 24 (0, 0))).alloc (.cells #[] 3 (0, 0))).heap.size = w.heap.size + 2 := by simp
  refine ⟨?_, ?_, ?_, by simp [Value.ownBlock], below_a3 _ _ _ _, by omega, by simp⟩
  · exact (Below.heap_alloc _ _ _ (by omega)).trans (heap_alloc2_old w _ _)
  · have := heap_alloc_new ((w.alloc (.cells #[.slice none 0 0] 24 (0, 0))).alloc (.cells #[] 3 (0, 0))) (.cells #[.slice (some ⟨w.heap.size + 1, 0, none⟩) 0 0] 24 (0, 0))
    rwa [e2] at this
  · have := World.ownsRow_lit (base := w.heap.size + 1) (e := 3) (size := 1) (w.alloc (.cells #[.slice none 0 0] 24 (0, 0))) #[] 0 (by omega) (by decide) rfl
    rw [e1] at this
    exact this.alloc _
theorem append_int {ops : Array Oper} {rest : List Oper} {o : Oper} {a : Act} {Q : Exit → Act → World → Prop} (w : World) (hgd : o.guard = none) (s x : Operand)
    (ho : o.op = .call { callee := .builtin .append, args := #[s, x], argTypes := #[22, 22] }) (base : Nat) (v : Value) (n : Nat) (xs : List Value) (hs : a.eval s = v) (hown : w.ownsRow base 3 1 v n xs)
    (B : Nat) (z : Int) (hx : a.eval x = .slice (some ⟨B, 0, none⟩) 1 1) (hz : w.cell? ⟨B, 0, none⟩ = some (.int .i64 z)) (hn : n ≤ 1000000000) (hb : base ≤ w.heap.size)
    (h : ∀ g cap w', w'.ownsRow base 3 1 (.slice (some ⟨g, 0, none⟩) (n + 1) cap) (n + 1) (xs ++ [.int .i64 z]) → w.grownBy w' v.ownBlock → (v.ownBlock = some g ∨ g = w.heap.size) → wpList Try.prog ops Q rest (a.put o.dst (.slice (some ⟨g, 0, none⟩) (n + 1) cap)) w') : wpList Try.prog ops Q (o :: rest) a w := by
  obtain ⟨i0, hi, hz0, hz1, hz2⟩ := info_parts intInfo
  refine wpList_append_lies w hgd s x 22 ho base 3 i0 (.int .i64 0) 1 8 Try.underlying22 hi hz0 hz1 hz2 rfl (by decide) v n xs hs hown ⟨B, 0, none⟩ 1 1 [.int .i64 z] hx rfl ?_ ?_ (by decide) (by unfold maxLen; omega) (by omega) hb _ rfl (fun g cap w' h1 h2 h3 _ => h g cap w' h1 h2 h3)
  · intro j u hu
    rcases j with _ | j
    · simp at hu; subst hu; exact hz
    · simp at hu
  · intro u hu
    simp at hu; subst hu; rfl

set_option maxHeartbeats 800000 in
theorem FlatProfile_spec (w : World) :
    Calls Try.prog 8 #[] w fun e w' => ∃ A c, e = .returned (.agg #[.slice A FlatProfile_v0.length c]) ∧ w'.ownsRow w.heap.size 3 1 (.slice A FlatProfile_v0.length c) FlatProfile_v0.length (intsV FlatProfile_v0) ∧ Below w.heap.size w w' := by
  go_enter Try.func8, Try.ntmps8
  go_wp2
  go_loopw [2] (fun i wr => ∃ (k : Nat) (v : Value), k ≤ 24 ∧ i = .int .i64 k ∧ Filling w wr (w.heap.size + 1) v k (intsV (List.replicate k 100))) (fun i _ => 24 - (intOf i).toNat)
  case atStart => exact ⟨0, .slice none 0 0, by omega, rfl, Filling.start1 w⟩
  case round =>
    obtain ⟨k, v, hk, rfl, hF⟩ := hrel
    have hcell := cell_of_one hF.box
    have hfree := free_of_one hF.box
    have HF := Lib.hid hF
    by_cases hlt : k < 24
    · have Ho := Lib.hid (hF.own.alloc (.cells #[.int .i64 100] 3 (0, 0)))
      have hlo := hF.lo
      have hhi := hF.hi
      clear hF
      go_wp2_with (at_builtin; refine append_int _ rfl _ _ rfl (w.heap.size + 1) v k (intsV (List.replicate k 100)) rfl Ho.out wr.heap.size 100 rfl (by simp [go_sem]) (by omega) (by simp; omega) ?_; intro g cap w1 ho hg hat; have hD := HF.out.grown _ hg hat; have HN := Lib.hid (hundred_snoc k ▸ hD.step ho); have hcell1 := cell_of_one hD.box; have hfree1 := free_of_one hD.box; clear hcell hfree ho hg hat hD)
      go_roundw
      case rel => exact ⟨k + 1, _, by omega, by go_num, HN.out⟩
      case measure => simp [intOf]; omega
    · have hkn : k = 24 := by omega
      subst hkn
      have hcell2 := cell_of_one hF.res
      have hfree2 := free_of_one hF.res
      obtain ⟨A, c, rfl⟩ := own_form hF.own
      clear hF
      go_wp2
      exact bodyPost_ret (v := .agg #[.slice A 24 c]) (by simp [results, Try.results8, go_sem, hcell2]) rfl ⟨A, c, rfl, own_base (own_set HF.out.own (by simp) _) (by omega), HF.out.bel.setCell (Nat.le_refl _) _⟩

set_option maxHeartbeats 800000 in
theorem FlatProfile_impl (w : World) :
    Calls Try.prog 9 #[] w fun e w' => ∃ A c, e = .returned (.agg #[.slice A FlatProfile_v0.length c]) ∧ w'.ownsRow w.heap.size 3 1 (.slice A FlatProfile_v0.length c) FlatProfile_v0.length (intsV FlatProfile_v0) ∧ Below w.heap.size w w' := by
  go_enter Try.func9, Try.ntmps9
  go_wp2
  go_loopw [4] (fun i wr => ∃ (k : Nat) (v : Value), k ≤ 24 ∧ i = .int .i64 k ∧ Filling w wr (w.heap.size + 2) v k (intsV (List.replicate k 100))) (fun i _ => 24 - (intOf i).toNat)
  case atStart => exact ⟨0, .slice (some ⟨w.heap.size + 1, 0, none⟩) 0 0, by omega, rfl, Filling.start2 w⟩
  case round =>
    obtain ⟨k, v, hk, rfl, hF⟩ := hrel
    have hcell := cell_of_one hF.box
    have hfree := free_of_one hF.box
    have HF := Lib.hid hF
    by_cases hlt : k < 24
    · have Ho := Lib.hid (hF.own.alloc (.cells #[.int .i64 100] 3 (0, 0)))
      have hlo := hF.lo
      have hhi := hF.hi
      clear hF
      go_wp2_with (at_builtin; refine append_int _ rfl _ _ rfl (w.heap.size + 1) v k (intsV (List.replicate k 100)) rfl Ho.out wr.heap.size 100 rfl (by simp [go_sem]) (by omega) (by simp; omega) ?_; intro g cap w1 ho hg hat; have hD := HF.out.grown _ hg hat; have HN := Lib.hid (hundred_snoc k ▸ hD.step ho); have hcell1 := cell_of_one hD.box; have hfree1 := free_of_one hD.box; clear hcell hfree ho hg hat hD)
      go_roundw
      case rel => exact ⟨k + 1, _, by omega, by go_num, HN.out⟩
      case measure => simp [intOf]; omega
    · have hkn : k = 24 := by omega
      subst hkn
      have hcell2 := cell_of_one hF.res
      have hfree2 := free_of_one hF.res
      obtain ⟨A, c, rfl⟩ := own_form hF.own
      clear hF
      go_wp2
      exact bodyPost_ret (v := .agg #[.slice A 24 c]) (by simp [results, Try.results9, go_sem, hcell2]) rfl ⟨A, c, rfl, own_base (own_set HF.out.own (by simp) _) (by omega), HF.out.bel.setCell (Nat.le_refl _) _⟩

end Go.Proofs.Ytanedebkpcpknaa
