/- A network without one of its pipes: the reference's. -/
import Derived.Test.YtdlcldaogcbnlaaNetC
import Derived.Test.YtdlcldaogcbnlaaSch4
namespace Go.Proofs.Ytdlcldaogcbnlaa
open Go.RowKit
set_option linter.unusedVariables false

theorem join_take (ps : List Pp) (i : Nat) : pipesV ([] ++ ps.take i ++ ps.drop (i + 1)) = pipesV (ps.eraseIdx i) := by
  rw [List.eraseIdx_eq_take_drop_succ]; rfl

set_option maxRecDepth 100000 in
set_option maxHeartbeats 1000000 in
theorem l2Without_any (m : Int) (A : Option Addr) (n c : Nat) (ps : List Pp) (i : Nat) (w : World) (ha : Rd w 4 A n (pipesV ps)) (hn : n ≤ 1048576) (hf : Fm A n c) (hi : i < n) :
    Calls Try.prog 54 #[.agg #[.int .i64 m, .slice A n c], .int .i64 ((i : Nat) : Int)] w fun e w' => ∃ A' n' c', e = .returned (.agg #[.int .i64 m, .slice A' n' c']) ∧ Rd w' 4 A' n' (pipesV (ps.eraseIdx i)) ∧ Fm A' n' c' ∧ Below w.heap.size w w' := by
  have hl := rd_pipes_len ha
  go_enter Try.func54, Try.ntmps54
  refine wp_seq_k (fun K1 h1 => ?_)
  refine region_plain (row := none) [(0, true), (1, true)] rfl ?_
  have s1 := SG.self w none
  refine sn (fun b => .pointer (some ⟨b, 0, none⟩)) #[.int .i64 m, .slice A n c] 31 s1 rfl rfl rfl (fun _ => by kernel_rfl) (fun b2 w3 hb4 k5 x6 s7 => ?_)
  have lo8 : w.heap.size ≤ b2 := by have := ((SG.belowR (Below.refl _ _) s1 (fun kq e => by cases e))).size; omega
  refine sn (fun b => .pointer (some ⟨b, 0, none⟩)) #[.int .i64 0, .slice none 0 0] 31 s7 rfl rfl rfl (fun _ => by kernel_rfl) (fun b9 w10 hb11 k12 x13 s14 => ?_)
  have lo15 : w.heap.size ≤ b9 := by have := ((SG.belowR (Below.refl _ _) s7 (fun kq e => by cases e))).size; omega
  have ne16 : b2 ≠ b9 := by have := blk_lt x6; omega
  have x6 := (k12.block _ (blk_lt x6)).trans x6
  refine sch_end ?_
  simp only [List.set_cons_zero, List.set_cons_succ]
  have c17 := (SG.belowR (Below.refl _ _) s14 (fun kq e => by cases e))
  refine h1 _ _ ?_
  refine wp_seq_k (fun K2 h2 => ?_)
  refine region_sch (row := (some b9)) (Sch.of [(0, false), (1, false), (3, false), (4, false), (5, false), (6, false), (8, false), (9, false), (10, false), (11, false), (12, false), (2, true), (7, true), (13, true), (14, false), (15, true)]) (by kernel_rfl) (by kernel_rfl) (fun _ d _ _ _ h => by cases d <;> exact h) (by kernel_rfl) (fun w18 e19 s20 => ?_)
  have x21 := (heap_same e19 x13)
  refine sq (v := .pointer (some ⟨b2, 0, none⟩)) rfl (r_field0 rfl rfl (by kernel_rfl)) rfl rfl rfl ?_
  refine sq (v := .int .i64 m) rfl (r_load rfl rfl (by kernel_rfl) (sgS (blk_cell (j := 0) x6 rfl) (by have := ne16; simp; omega))) rfl rfl rfl ?_
  refine sq (v := .pointer (some ⟨b2, 1, none⟩)) rfl (r_field (k := 1) rfl rfl (by kernel_rfl)) rfl rfl rfl ?_
  refine sq (v := .slice A n c) rfl (r_load rfl rfl (by kernel_rfl) (sgS (blk_cell (j := 1) x6 rfl) (by have := ne16; simp; omega))) rfl rfl rfl ?_
  refine sq (v := .int .i64 ((i : Nat) : Int)) rfl (r_move rfl rfl) rfl rfl rfl ?_
  simp only [List.set_cons_zero, List.set_cons_succ]
  refine sq (v := .slice A i c) rfl (r_sliceTo (k := i) (size := 4) rfl rfl rfl (by kernel_rfl) (by have := (hf).le; omega)) rfl rfl rfl ?_
  refine sq (v := .pointer (some ⟨b2, 1, none⟩)) rfl (r_field (k := 1) rfl rfl (by kernel_rfl)) rfl rfl rfl ?_
  refine sq (v := .slice A n c) rfl (r_load rfl rfl (by kernel_rfl) (sgS (blk_cell (j := 1) x6 rfl) (by have := ne16; simp; omega))) rfl rfl rfl ?_
  refine sq (v := .int .i64 ((i : Nat) : Int)) rfl (r_move rfl rfl) rfl rfl rfl ?_
  refine sq (v := .int .i64 ((i + 1 : Nat) : Int)) rfl (r_add (z := ((i + 1 : Nat) : Int)) rfl rfl rfl (by omega) (by omega)) rfl rfl rfl ?_
  simp only [List.set_cons_zero, List.set_cons_succ]
  refine sq (v := .slice (sFrom A c (i + 1) 4) (n - (i + 1)) (c - (i + 1))) rfl (r_sliceFrom (k := i + 1) (size := 4) rfl rfl rfl (by kernel_rfl) (by omega)) rfl rfl rfl ?_
  refine sn (fun b => .slice (some ⟨b, 0, none⟩) 0 0) #[] 51 s20 rfl rfl rfl (fun _ => by kernel_rfl) (fun b22 w23 hb24 k25 x26 s27 => ?_)
  have lo28 : w.heap.size ≤ b22 := by have := ((SG.belowR c17 s20 (fun kq e => by cases e; exact lo15))).size; omega
  have ne29 : b2 ≠ b22 := by have := blk_lt x6; have := World.grownBy.size s20; omega
  have ne30 : b9 ≠ b22 := by have := blk_lt x21; omega
  have x21 := (k25.block _ (blk_lt x21)).trans x21
  have ho31 := own_empty (base := w.heap.size) (size := 4) x26 lo28
  replace ho31 : World.ownsRow _ _ _ _ _ _ (pipesV []) := ho31
  have nb32 : Nb b2 (.slice (some ⟨b22, 0, none⟩) 0 0) := nb_new (by have := ne29; omega)
  have nb33 : Nb b9 (.slice (some ⟨b22, 0, none⟩) 0 0) := nb_new (by have := ne30; omega)
  replace ho31 : World.ownsRow _ _ _ _ _ _ (pipesV []) := ho31
  refine sapR (e := 51) (size := 4) (base := w.heap.size) s27 rfl rfl rfl rfl rfl rfl (by kernel_rfl) ho31 (Rd.toP (Rd.kept ha (SG.belowR c17 s27 (fun kq e => by cases e; exact lo15))) (by omega)) (Fm.to hf (by have := (hf).le; omega)) (pipes_one _) (by omega) (by have := ((SG.belowR c17 s27 (fun kq e => by cases e; exact lo15))).size; omega) (.inr (fun kq e => by have := World.grownBy.size s20; have := hb24; have e' := Option.some.inj e; simp at e'; omega)) (fun A34 cap35 w36 ho37 hg38 hat39 s40 => ?_)
  have nb41 : Nb b2 (.slice A34 (0 + i) cap35) := nb_app2 nb32 (Nat.lt_of_lt_of_le (blk_lt x6) (World.grownBy.size s27)) hat39
  have nb42 : Nb b9 (.slice A34 (0 + i) cap35) := nb_app2 nb33 (blk_lt x21) hat39
  have x21 := (hg38.block _ (blk_lt x21) nb33).trans x21
  have ho37 := own_joinP ho37
  have fr43 : ∀ kq, (.slice A34 (0 + i) cap35 : Value).ownBlock = some kq → w10.heap.size ≤ kq := fun kq e => by
    have hs := World.grownBy.size s27
    rcases hat39 with h | h
    · exact (show ∀ kq, Value.ownBlock _ = some kq → w10.heap.size ≤ kq from (fun kq e => by have := World.grownBy.size s20; have := hb24; have e' := Option.some.inj e; simp at e'; omega)) kq (h.symm.trans e)
    · have := Option.some.inj (h.symm.trans e); omega
  refine sapR (e := 51) (size := 4) (base := w.heap.size) s40 rfl rfl rfl rfl rfl rfl (by kernel_rfl) ho37 (Rd.fromP (Rd.kept ha (SG.belowR c17 s40 (fun kq e => by cases e; exact lo15))) (by omega) (hf).le) (Fm.from (size := 4) hf (by omega)) (pipes_one _) (by omega) (by have := ((SG.belowR c17 s40 (fun kq e => by cases e; exact lo15))).size; omega) (.inr fr43) (fun A44 cap45 w46 ho47 hg48 hat49 s50 => ?_)
  have nb51 : Nb b2 (.slice A44 ((0 + i) + (n - (i + 1))) cap45) := nb_app2 nb41 (Nat.lt_of_lt_of_le (blk_lt x6) (World.grownBy.size s40)) hat49
  have nb52 : Nb b9 (.slice A44 ((0 + i) + (n - (i + 1))) cap45) := nb_app2 nb42 (blk_lt x21) hat49
  have x21 := (hg48.block _ (blk_lt x21) nb42).trans x21
  have ho47 := own_joinP ho47
  have fr53 : ∀ kq, (.slice A44 ((0 + i) + (n - (i + 1))) cap45 : Value).ownBlock = some kq → w10.heap.size ≤ kq := fun kq e => by
    have hs := World.grownBy.size s40
    rcases hat49 with h | h
    · exact (show ∀ kq, Value.ownBlock _ = some kq → w10.heap.size ≤ kq from fr43) kq (h.symm.trans e)
    · have := Option.some.inj (h.symm.trans e); omega
  refine sq (v := .agg #[.int .i64 m, .slice A44 ((0 + i) + (n - (i + 1))) cap45]) rfl (r_build rfl (vs := [(0, .int .i64 m), (1, .slice A44 ((0 + i) + (n - (i + 1))) cap45)]) rfl (by kernel_rfl)) rfl rfl rfl ?_
  simp only [List.set_cons_zero, List.set_cons_succ]
  refine ss (j := 0) (news := [.int .i64 m, .slice A44 ((0 + i) + (n - (i + 1))) cap45]) (cs' := #[.int .i64 m, .slice A44 ((0 + i) + (n - (i + 1))) cap45]) s50 rfl rfl rfl rfl rfl rfl x21 rfl (by kernel_rfl) (by simp) rfl rfl (.inl rfl) (fun w54 g55 x56 s57 => ?_)
  have ho58 := own_grown ho47 g55 (fun j e1 e2 => by cases e2; exact nb52 e1.symm)
  refine sch_end ?_
  have x6 := SG.blk s57 x6 (by have := ne16; simp; omega)
  have c59 := (SG.belowR c17 s57 (fun kq e => by cases e; exact lo15))
  refine h2 _ _ ?_
  refine wp_ret ?_
  try simp only [Exit.then]
  refine retC rfl rfl (by kernel_rfl) (by kernel_rfl) x56 ?_
  -- (([] ++ (ps.take i)) ++ (ps.drop (i + 1)))
  exact ⟨_, _, _, rfl, (by have h9 := own_rd ho58; rw [← join_take]; exact h9), own_fm ho58, c59⟩

end Go.Proofs.Ytdlcldaogcbnlaa
