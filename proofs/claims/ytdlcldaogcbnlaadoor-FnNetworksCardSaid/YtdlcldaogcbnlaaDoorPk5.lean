/- What the texts behind it build on; conditions: none. -/
import Derived.Test.YtdlcldaogcbnlaaDoorPk4
import Derived.Lib.SplitLaws
namespace Go.Proofs.YtdlcldaogcbnlaaDoor
open Go.RowKit
set_option linter.unusedVariables false
set_option linter.unusedSimpArgs false
theorem pipesV_app (xs ys : List Pp) : pipesV (xs ++ ys) = pipesV xs ++ pipesV ys := by simp [pipesV]
theorem pipesV_take (ps : List Pp) : ∀ k, pipesV (ps.take k) = (pipesV ps).take (k * 4) := by
  induction ps with
  | nil => intro k; simp [pipesV]
  | cons p ps ih =>
    intro k
    cases k with
    | zero => simp [pipesV]
    | succ k =>
      have e : pipesV (p :: ps) = p.vals ++ pipesV ps := by simp [pipesV]
      rw [List.take_succ_cons, show pipesV (p :: ps.take k) = p.vals ++ pipesV (ps.take k) by simp [pipesV], e, ih k, show (k + 1) * 4 = p.vals.length + k * 4 by simp [Pp.vals]; omega, List.take_length_add_append]
theorem pipesV_drop (ps : List Pp) : ∀ k, pipesV (ps.drop k) = (pipesV ps).drop (k * 4) := by
  induction ps with
  | nil => intro k; simp [pipesV]
  | cons p ps ih =>
    intro k
    cases k with
    | zero => simp [pipesV]
    | succ k =>
      have e : pipesV (p :: ps) = p.vals ++ pipesV ps := by simp [pipesV]
      rw [List.drop_succ_cons, e, ih k, show (k + 1) * 4 = p.vals.length + k * 4 by simp [Pp.vals]; omega, List.drop_length_add_append]
theorem blk_from {w : World} {g c : Nat} {cur : Array Value} {E : TypeId} {ps : List Pp} {n k : Nat} (hg : w.heap[g]? = some (.cells cur E (0, 0))) (ht : cur.toList.take (n * 4) = pipesV ps) (hk : k ≤ n) (hl : ps.length = n) (hnc : n ≤ c) :
    ∃ ad : Addr, sFrom (some ⟨g, 0, none⟩) c k 4 = some ad ∧ ∀ j u, (pipesV (ps.drop k))[j]? = some u → w.cell? (ad.add j) = some u := by
  by_cases h : c = k
  · refine ⟨⟨g, 0, none⟩, by unfold sFrom; rw [if_pos h], fun j u hu => ?_⟩
    have : ps.drop k = [] := List.drop_eq_nil_of_le (by omega)
    rw [this] at hu; simp [pipesV] at hu
  · refine ⟨⟨g, k * 4, none⟩, by unfold sFrom; rw [if_neg h]; show some (Addr.add ⟨g, 0, none⟩ (k * 4)) = _; rw [Addr.add_lit, Nat.zero_add], fun j u hu => ?_⟩
    rw [pipesV_drop, List.getElem?_drop, ← ht, List.getElem?_take] at hu
    split at hu
    · simp only [Addr.add_lit, World.cell?, hg]
      simpa using hu
    · cases hu
theorem del_cells {cur : Array Value} {ps : List Pp} {n i c : Nat} (hs : cur.size = c * 4) (hnc : n ≤ c) (ht : cur.toList.take (n * 4) = pipesV ps) (hl : ps.length = n) (hi : i < n) :
    ((cur.toList.take (i * 4) ++ pipesV (ps.drop (i + 1)) ++ cur.toList.drop (i * 4 + (pipesV (ps.drop (i + 1))).length))).take ((n - 1) * 4) = pipesV (ps.eraseIdx i) := by
  have hd : (pipesV (ps.drop (i + 1))).length = (n - 1 - i) * 4 := by rw [pipesV_len, List.length_drop, hl]; omega
  have h1 : cur.toList.take (i * 4) = pipesV (ps.take i) := by
    rw [pipesV_take, ← ht, List.take_take, Nat.min_eq_left (by omega)]
  have hlt : (pipesV (ps.take i)).length = i * 4 := by rw [pipesV_len, List.length_take, hl]; omega
  rw [h1, List.eraseIdx_eq_take_drop_succ, pipesV_app]
  exact List.take_left' (by rw [List.length_append, hlt, hd]; omega)
set_option maxRecDepth 100000 in
set_option maxHeartbeats 8000000 in
theorem DeleteP_any (A : Option Addr) (n c : Nat) (ps : List Pp) (i base : Nat) (z1 z2 : Int) (w : World) (how : w.ownsRow base 38 4 (.slice A n c) n (pipesV ps)) (hi : i < n) (hn : n ≤ 1000000) (e1 : z1 = ((i : Nat) : Int)) (e2 : z2 = ((i + 1 : Nat) : Int)) :
    Calls Tryd.prog 61 #[.slice A n c, .int .i64 z1, .int .i64 z2] w fun e w' => e = .returned (.slice A (n - 1) c) ∧ w'.ownsRow base 38 4 (.slice A (n - 1) c) (n - 1) (pipesV (ps.eraseIdx i)) ∧ w.grownBy w' (Value.slice A n c).ownBlock := by
  have hl := rd_pipes_len (own_rd how)
  subst e1 e2
  obtain ⟨g, cur, rfl, hb, hh, hnc, hcm, hcs, hct⟩ := own_open how (by omega)
  have hown : (Value.slice (some ⟨g, 0, none⟩) n c).ownBlock = some g := rfl
  go_enter Tryd.func61, Tryd.ntmps61
  refine wp_seq_k (fun K1 h1 => ?_)
  refine W.region_quiet [(0, false)] (by kernel_rfl) ?_
  refine W.as (v := .slice none 0 0) (h := ?_)
  refine W.endF 33 [(0, .slice (some ⟨g, 0, none⟩) n c), (1, .int .i64 ((i : Nat) : Int)), (2, .int .i64 ((i + 1 : Nat) : Int)), (6, .slice none 0 0)] (fun U1 => ?_)
  apply h1
  refine wp_seq_k (fun K2 h2 => ?_)
  refine W.region_quiet [(0, false), (1, false), (2, false), (3, false), (4, false), (5, false)] (by kernel_rfl) ?_
  refine F.mv (v := .slice (some ⟨g, 0, none⟩) n c) (h := ?_)
  refine F.mv (v := .int .i64 ((i : Nat) : Int)) (h := ?_)
  refine F.mv (v := .int .i64 ((i + 1 : Nat) : Int)) (h := ?_)
  refine F.mv (v := .slice (some ⟨g, 0, none⟩) n c) (h := ?_)
  refine F.q (v := .int .i64 ((n : Nat) : Int)) (hr := (r_len (A := (some ⟨g, 0, none⟩)) (n := n) (c := c) rfl (ev_any (by kernel_rfl)) (by kernel_rfl))) (h := ?_)
  refine F.q (v := .slice (sFrom (some ⟨g, 0, none⟩) n i 4) (i + 1 - i) (n - i)) (hr := (r_slice3 (A := (some ⟨g, 0, none⟩)) (n := n) (c := c) (lo := i) (hi := i + 1) (mx := n) (size := 4) rfl (ev_any (by kernel_rfl)) (ev_any (by kernel_rfl)) (ev_any (by kernel_rfl)) (ev_any (by kernel_rfl)) (by kernel_rfl) (by omega) (by omega) (by omega))) (h := ?_)
  refine F.endF [(0, .slice (some ⟨g, 0, none⟩) n c), (1, .int .i64 ((i : Nat) : Int)), (2, .int .i64 ((i + 1 : Nat) : Int)), (6, .slice none 0 0)] (fun U2 => ?_)
  apply h2
  refine wp_seq_k (fun K3 h3 => ?_)
  refine wp_seq_k (fun K4 h4 => ?_)
  refine W.region_quiet [(0, false), (1, false), (2, false)] (by kernel_rfl) ?_
  refine F.mv (v := .int .i64 ((i : Nat) : Int)) (h := ?_)
  refine F.mv (v := .int .i64 ((i + 1 : Nat) : Int)) (h := ?_)
  refine F.q (v := .bool false) (hr := (r_eql (m := ((i : Nat) : Int)) (n := ((i + 1 : Nat) : Int)) rfl (ev_any (by kernel_rfl)) (ev_any (by kernel_rfl)) (df (by omega)))) (h := ?_)
  refine F.endF [(0, .slice (some ⟨g, 0, none⟩) n c), (1, .int .i64 ((i : Nat) : Int)), (2, .int .i64 ((i + 1 : Nat) : Int)), (6, .slice none 0 0), (16, .bool false)] (fun U3 => ?_)
  apply h4
  refine wp_cond_false (by kernel_rfl) ?_
  apply wp_skip
  apply h3
  refine wp_seq_k (fun K5 h5 => ?_)
  refine W.region_quiet [(0, false), (1, false), (2, false)] (by kernel_rfl) ?_
  refine F.mv (v := .slice (some ⟨g, 0, none⟩) n c) (h := ?_)
  refine F.q (v := .int .i64 ((n : Nat) : Int)) (hr := (r_len (A := (some ⟨g, 0, none⟩)) (n := n) (c := c) rfl (ev_any (by kernel_rfl)) (by kernel_rfl))) (h := ?_)
  refine F.as (v := .int .i64 ((n : Nat) : Int)) (h := ?_)
  refine F.endF [(0, .slice (some ⟨g, 0, none⟩) n c), (1, .int .i64 ((i : Nat) : Int)), (2, .int .i64 ((i + 1 : Nat) : Int)), (6, .slice none 0 0), (7, .int .i64 ((n : Nat) : Int)), (16, .bool false)] (fun U4 => ?_)
  apply h5
  refine wp_seq_k (fun K6 h6 => ?_)
  refine W.region_sch (row := (Value.ownBlock (.slice (some ⟨g, 0, none⟩) n c))) (Sch.of [(0, false), (1, false), (2, false), (3, false), (4, false), (5, false), (6, true), (7, false)]) (by kernel_rfl) (by kernel_rfl) (fun _ d _ _ _ h => by cases d <;> exact h) (by kernel_rfl) (fun w5 e6 s7 => ?_)
  have ho8 := own_heap how e6
  refine F.mv (v := .slice (some ⟨g, 0, none⟩) n c) (h := ?_)
  refine F.mv (v := .int .i64 ((i : Nat) : Int)) (h := ?_)
  refine F.q (v := .slice (some ⟨g, 0, none⟩) i c) (hr := (r_sliceTo (A := (some ⟨g, 0, none⟩)) (n := n) (c := c) (k := i) (size := 4) rfl (ev_any (by kernel_rfl)) (ev_any (by kernel_rfl)) (by kernel_rfl) (by omega))) (h := ?_)
  refine F.mv (v := .slice (some ⟨g, 0, none⟩) n c) (h := ?_)
  refine F.mv (v := .int .i64 ((i + 1 : Nat) : Int)) (h := ?_)
  refine F.q (v := .slice (sFrom (some ⟨g, 0, none⟩) c (i + 1) 4) (n - (i + 1)) (c - (i + 1))) (hr := (r_sliceFrom (A := (some ⟨g, 0, none⟩)) (n := n) (c := c) (k := i + 1) (size := 4) rfl (ev_any (by kernel_rfl)) (ev_any (by kernel_rfl)) (by kernel_rfl) (by omega))) (h := ?_)
  have hh1 : w5.heap[g]? = some (.cells cur 38 (0, 0)) := heap_same e6 hh
  obtain ⟨ad, had, hsrc⟩ := blk_from (c := c) (k := i + 1) hh1 hct (by omega) hl (by omega)
  have hnl : (pipesV (ps.drop (i + 1))).length = (n - (i + 1)) * 4 := by rw [pipesV_len, List.length_drop, hl]
  obtain ⟨i0, hi0, hz0, hz1, hz2⟩ := info_parts pipeInfo
  obtain ⟨cur2, hcur2⟩ : ∃ cur2 : Array Value, cur2 = (cur.toList.take (i * 4) ++ pipesV (ps.drop (i + 1)) ++ cur.toList.drop (i * 4 + (pipesV (ps.drop (i + 1))).length)).toArray := ⟨_, rfl⟩
  have s11 := SG.of_grown s7 (grown_row (w := w5) (g := g) (cs := cur2)) (.inl rfl)
  refine W.lv (v := .slice (some ⟨g, 0, none⟩) (i + (n - (i + 1))) c) (w' := w5.setRow g cur2) rfl (by kernel_rfl) rfl (run_appendOp (x := .slice (some ⟨g, 0, none⟩) i c) (y := .slice (sFrom (some ⟨g, 0, none⟩) c (i + 1) 4) (n - (i + 1)) (c - (i + 1))) rfl (by kernel_rfl) (by kernel_rfl) (by rw [had, hcur2]; exact run_append_room_blk _ _ _ _ i0 (by kernel_rfl) hi0 g i c ad (n - (i + 1)) _ 4 _ hz1 hnl hsrc (pipes_one _) (by omega) cur _ hh1 (by rw [hnl]; omega))) s11 ?_
  apply F.nx
  have hh2 : (w5.setRow g cur2).heap[g]? = some (.cells cur2 38 (0, 0)) := setRow_heap w5 g cur cur2 38 (0, 0) hh1
  have hcs2 : cur2.size = c * 4 := by rw [hcur2, List.size_toArray, List.length_append, List.length_append, List.length_take, List.length_drop, hnl, Array.length_toList, hcs]; omega
  have hct2 : cur2.toList.take ((n - 1) * 4) = pipesV (ps.eraseIdx i) := by rw [hcur2]; exact del_cells hcs (by omega) hct hl hi
  have hel : (pipesV (ps.eraseIdx i)).length = (n - 1) * 4 := by rw [pipesV_len, List.length_eraseIdx, if_pos (by omega), hl]
  have hn1 : i + (n - (i + 1)) = n - 1 := by omega
  obtain ⟨w9, hw2⟩ : ∃ w2, w2 = w5.setRow g cur2 := ⟨_, rfl⟩
  rw [← hw2] at hh2 s11 ⊢
  rw [hn1]
  refine F.as (v := .slice (some ⟨g, 0, none⟩) (n - 1) c) (h := ?_)
  refine F.endF [(0, .slice (some ⟨g, 0, none⟩) (n - 1) c), (1, .int .i64 ((i : Nat) : Int)), (2, .int .i64 ((i + 1 : Nat) : Int)), (6, .slice none 0 0), (7, .int .i64 ((n : Nat) : Int)), (16, .bool false)] (fun U12 => ?_)
  have c13 := (SG.fr (B := g) (World.grownBy.refl _ _) s11 (fun kq e => .inl (Option.some.inj e).symm))
  apply h6
  refine wp_seq_k (fun K7 h7 => ?_)
  refine W.region_plain (row := (Value.ownBlock (.slice (some ⟨g, 0, none⟩) (n - 1) c))) [(0, false), (1, false), (2, false), (3, false), (4, false), (5, true)] (by kernel_rfl) ?_
  have s14 := SG.self w9 (Value.ownBlock (.slice (some ⟨g, 0, none⟩) (n - 1) c))
  refine F.mv (v := .slice (some ⟨g, 0, none⟩) (n - 1) c) (h := ?_)
  refine F.mv (v := .slice (some ⟨g, 0, none⟩) (n - 1) c) (h := ?_)
  refine F.q (v := .int .i64 (((n - 1) : Nat) : Int)) (hr := (r_len (A := (some ⟨g, 0, none⟩)) (n := (n - 1)) (c := c) rfl (ev_any (by kernel_rfl)) (by kernel_rfl))) (h := ?_)
  refine F.mv (v := .int .i64 ((n : Nat) : Int)) (h := ?_)
  have hsf : sFrom (some ⟨g, 0, none⟩) c (n - 1) 4 = some ⟨g, (n - 1) * 4, none⟩ := by unfold sFrom; rw [if_neg (by omega)]; show some (Addr.add ⟨g, 0, none⟩ ((n - 1) * 4)) = _; rw [Addr.add_lit, Nat.zero_add]
  have hone : n - (n - 1) = 1 := by omega
  refine F.q (v := .slice (some ⟨g, (n - 1) * 4, none⟩) 1 (c - (n - 1))) (hr := (r_sliceLHe (A := (some ⟨g, 0, none⟩)) (n := n - 1) (c := c) (lo := n - 1) (hi := n) (size := 4) rfl (ev_any (by kernel_rfl)) (ev_any (by kernel_rfl)) (ev_any (by kernel_rfl)) (by kernel_rfl) (by omega) (by omega) hsf hone rfl)) (h := ?_)
  obtain ⟨cur3, hcur3⟩ : ∃ cur3 : Array Value, cur3 = (cur2.toList.take ((n - 1) * 4) ++ [Value.int .i64 0, Value.int .i64 0, Value.int .i64 0, Value.int .i64 0] ++ cur2.toList.drop ((n - 1) * 4 + ([Value.int .i64 0, Value.int .i64 0, Value.int .i64 0, Value.int .i64 0] : List Value).length)).toArray := ⟨_, rfl⟩
  have s16 := SG.of_grown s14 (grown_row (w := w9) (g := g) (cs := cur3)) (.inl rfl)
  refine W.lvn (v := .tuple #[]) (w' := w9.setRow g cur3) rfl (by kernel_rfl) rfl (run_clearOp (x := .slice (some ⟨g, (n - 1) * 4, none⟩) 1 (c - (n - 1))) rfl (by kernel_rfl) (by rw [hcur3]; exact run_clear_blk _ _ 38 _ [Value.int .i64 0, Value.int .i64 0, Value.int .i64 0, Value.int .i64 0] (.agg #[.int .i64 0, .int .i64 0, .int .i64 0, .int .i64 0]) (by kernel_rfl) (fun _ => by kernel_rfl) g ((n - 1) * 4) 1 _ (by omega) (by kernel_rfl) (by simp [Value.oneCell']) cur2 _ hh2 (by simp only [List.length_cons, List.length_nil]; omega))) s16 ?_
  have hh3 : (w9.setRow g cur3).heap[g]? = some (.cells cur3 38 (0, 0)) := setRow_heap w9 g cur2 cur3 38 (0, 0) hh2
  have hcs3 : cur3.size = c * 4 := by rw [hcur3, List.size_toArray, List.length_append, List.length_append, List.length_take, List.length_drop, Array.length_toList, hcs2]; simp only [List.length_cons, List.length_nil]; omega
  have hct3 : cur3.toList.take ((n - 1) * 4) = pipesV (ps.eraseIdx i) := by rw [hcur3]; show List.take _ (_ ++ _ ++ _) = _; rw [List.append_assoc, hct2]; exact List.take_left' hel
  obtain ⟨w15, hw3⟩ : ∃ w2, w2 = w9.setRow g cur3 := ⟨_, rfl⟩
  rw [← hw3] at hh3 s16 ⊢
  refine F.endF [(0, .slice (some ⟨g, 0, none⟩) (n - 1) c), (1, .int .i64 ((i : Nat) : Int)), (2, .int .i64 ((i + 1 : Nat) : Int)), (6, .slice none 0 0), (7, .int .i64 ((n : Nat) : Int)), (16, .bool false)] (fun U17 => ?_)
  have c18 := (SG.fr (B := g) c13 s16 (fun kq e => .inl (Option.some.inj e).symm))
  apply h7
  refine wp_seq_k (fun K8 h8 => ?_)
  refine W.region_quiet [(0, false), (1, false)] (by kernel_rfl) ?_
  refine F.mv (v := .slice (some ⟨g, 0, none⟩) (n - 1) c) (h := ?_)
  refine F.as (v := .slice (some ⟨g, 0, none⟩) (n - 1) c) (h := ?_)
  refine F.endF [(0, .slice (some ⟨g, 0, none⟩) (n - 1) c), (1, .int .i64 ((i : Nat) : Int)), (2, .int .i64 ((i + 1 : Nat) : Int)), (6, .slice (some ⟨g, 0, none⟩) (n - 1) c), (7, .int .i64 ((n : Nat) : Int)), (16, .bool false)] (fun U19 => ?_)
  apply h8
  refine wp_ret ?_
  try simp only [Exit.then]
  refine ret1 (v := .slice (some ⟨g, 0, none⟩) (n - 1) c) rfl (by kernel_rfl) ?_
  exact ⟨rfl, (own_shut hb hh3 (by omega) hcm hcs3 hct3 hel), c18⟩
end Go.Proofs.YtdlcldaogcbnlaaDoor
namespace Go.Proofs.YtdlcldaogcbnlaaDoor
open Go.RowKit
set_option linter.unusedVariables false
theorem join_take (ps : List Pp) (i : Nat) : pipesV ([] ++ ps.take i ++ ps.drop (i + 1)) = pipesV (ps.eraseIdx i) := by
  rw [List.eraseIdx_eq_take_drop_succ]; rfl
set_option maxRecDepth 100000 in
set_option maxHeartbeats 1000000 in
theorem l2Without_any (m : Int) (A : Option Addr) (n c : Nat) (ps : List Pp) (i : Nat) (w : World) (ha : Rd w 4 A n (pipesV ps)) (hn : n ≤ 1048576) (hf : Fm A n c) (hi : i < n) :
    Calls Tryd.prog 65 #[.agg #[.int .i64 m, .slice A n c], .int .i64 ((i : Nat) : Int)] w fun e w' => ∃ A' n' c', e = .returned (.agg #[.int .i64 m, .slice A' n' c']) ∧ Rd w' 4 A' n' (pipesV (ps.eraseIdx i)) ∧ Fm A' n' c' ∧ Below w.heap.size w w' := by
  have hl := rd_pipes_len ha
  go_enter Tryd.func65, Tryd.ntmps65
  refine wp_seq_k (fun K1 h1 => ?_)
  refine region_plain (row := none) [(0, true), (1, true)] rfl ?_
  have s1 := SG.self w none
  refine sn (fun b => .pointer (some ⟨b, 0, none⟩)) #[.int .i64 m, .slice A n c] 24 s1 rfl rfl rfl (fun _ => by kernel_rfl) (fun b2 w3 hb4 k5 x6 s7 => ?_)
  have lo8 : w.heap.size ≤ b2 := by have := ((Sb (Below.refl _ _) s1 nkk)).size; omega
  refine sn (fun b => .pointer (some ⟨b, 0, none⟩)) #[.int .i64 0, .slice none 0 0] 24 s7 rfl rfl rfl (fun _ => by kernel_rfl) (fun b9 w10 hb11 k12 x13 s14 => ?_)
  have lo15 : w.heap.size ≤ b9 := by have := ((Sb (Below.refl _ _) s7 nkk)).size; omega
  have ne16 : b2 ≠ b9 := by have := blk_lt x6; omega
  have x6 := (k12.block _ (blk_lt x6)).trans x6
  refine sch_end ?_
  simp only [List.set_cons_zero, List.set_cons_succ]
  have c17 := (Sb (Below.refl _ _) s14 nkk)
  apply h1
  refine wp_seq_k (fun K2 h2 => ?_)
  refine region_sch (row := (some b9)) (Sch.of [(0, false), (1, false), (3, false), (4, false), (5, false), (6, false), (8, false), (9, false), (10, false), (11, false), (12, false), (2, true), (7, true), (13, true), (14, false), (15, true)]) (by kernel_rfl) (by kernel_rfl) (fun _ d _ _ _ h => by cases d <;> exact h) (by kernel_rfl) (fun w18 e19 s20 => ?_)
  have x21 := (heap_same e19 x13)
  refine sq (v := .pointer (some ⟨b2, 0, none⟩)) rfl (r_field0 rfl rfl (by kernel_rfl)) rfl rfl rfl ?_
  refine sq (v := .int .i64 m) rfl (r_load rfl rfl (by kernel_rfl) (sgS (blk_cell (j := 0) x6 rfl) (by have := ne16; simp; omega))) rfl rfl rfl ?_
  refine sq (v := .pointer (some ⟨b2, 1, none⟩)) rfl (r_field (k := 1) rfl rfl (by kernel_rfl)) rfl rfl rfl ?_
  refine sq (v := .slice A n c) rfl (r_load rfl rfl (by kernel_rfl) (sgS (blk_cell (j := 1) x6 rfl) (by have := ne16; simp; omega))) rfl rfl rfl ?_
  refine sq (v := .int .i64 ((i : Nat) : Int)) rfl (r_move rfl rfl) rfl rfl rfl ?_
  simp only [List.set_cons_zero, List.set_cons_succ]
  refine sq (v := .slice A i c) rfl (r_sliceTo (k := i) (size := 4) rfl rfl rfl (by kernel_rfl) (by have := (hf).le; omega)) rfl rfl rfl ?_
  refine sq (v := .pointer (some ⟨b2, 1, none⟩)) rfl (r_field (k := 1) rfl rfl (by kernel_rfl)) rfl rfl rfl ?_
  refine sq (v := .slice A n c) rfl (r_load rfl rfl (by kernel_rfl) (sgS (blk_cell (j := 1) x6 rfl) (by have := ne16; simp; omega))) rfl rfl rfl ?_
  refine sq (v := .int .i64 ((i : Nat) : Int)) rfl (r_move rfl rfl) rfl rfl rfl ?_
  refine sq (v := .int .i64 ((i + 1 : Nat) : Int)) rfl (r_add (z := ((i + 1 : Nat) : Int)) rfl rfl rfl (by omega) (by omega)) rfl rfl rfl ?_
  simp only [List.set_cons_zero, List.set_cons_succ]
  refine sq (v := .slice (sFrom A c (i + 1) 4) (n - (i + 1)) (c - (i + 1))) rfl (r_sliceFrom (k := i + 1) (size := 4) rfl rfl rfl (by kernel_rfl) (by omega)) rfl rfl rfl ?_
  refine sn (fun b => .slice (some ⟨b, 0, none⟩) 0 0) #[] 38 s20 rfl rfl rfl (fun _ => by kernel_rfl) (fun b22 w23 hb24 k25 x26 s27 => ?_)
  have lo28 : w.heap.size ≤ b22 := by have := ((Sb c17 s20 (fun kq e => by cases e; exact lo15))).size; omega
  have ne29 : b2 ≠ b22 := by have := blk_lt x6; have := World.grownBy.size s20; omega
  have ne30 : b9 ≠ b22 := by have := blk_lt x21; omega
  have x21 := (k25.block _ (blk_lt x21)).trans x21
  have ho31 := own_empty (base := w.heap.size) (size := 4) x26 lo28
  replace ho31 : World.ownsRow _ _ _ _ _ _ (pipesV []) := ho31
  have nb32 : Nb b2 (.slice (some ⟨b22, 0, none⟩) 0 0) := nb_new (by have := ne29; omega)
  have nb33 : Nb b9 (.slice (some ⟨b22, 0, none⟩) 0 0) := nb_new (by have := ne30; omega)
  replace ho31 : World.ownsRow _ _ _ _ _ _ (pipesV []) := ho31
  refine sapR (e := 38) (size := 4) (base := w.heap.size) s27 rfl rfl rfl rfl rfl rfl (by kernel_rfl) ho31 (Rd.toP (Rk ha (Sb c17 s27 (fun kq e => by cases e; exact lo15))) (by omega)) (Fm.to hf (by have := (hf).le; omega)) (pipes_one _) (by omega) (by have := ((Sb c17 s27 (fun kq e => by cases e; exact lo15))).size; omega) (.inr (fun kq e => by have := World.grownBy.size s20; have := hb24; have e' := Option.some.inj e; simp at e'; omega)) (fun A34 cap35 w36 ho37 hg38 hat39 s40 => ?_)
  have nb41 : Nb b2 (.slice A34 (0 + i) cap35) := nb_app2 nb32 (Nat.lt_of_lt_of_le (blk_lt x6) (World.grownBy.size s27)) hat39
  have nb42 : Nb b9 (.slice A34 (0 + i) cap35) := nb_app2 nb33 (blk_lt x21) hat39
  have x21 := (hg38.block _ (blk_lt x21) nb33).trans x21
  have ho37 := own_joinP ho37
  have fr43 : ∀ kq, (.slice A34 (0 + i) cap35 : Value).ownBlock = some kq → w10.heap.size ≤ kq := fun kq e => by
    have hs := World.grownBy.size s27
    rcases hat39 with h | h
    · exact (show ∀ kq, Value.ownBlock _ = some kq → w10.heap.size ≤ kq from (fun kq e => by have := World.grownBy.size s20; have := hb24; have e' := Option.some.inj e; simp at e'; omega)) kq (h.symm.trans e)
    · have := Option.some.inj (h.symm.trans e); omega
  refine sapR (e := 38) (size := 4) (base := w.heap.size) s40 rfl rfl rfl rfl rfl rfl (by kernel_rfl) ho37 (Rd.fromP (Rk ha (Sb c17 s40 (fun kq e => by cases e; exact lo15))) (by omega) (hf).le) (Fm.from (size := 4) hf (by omega)) (pipes_one _) (by omega) (by have := ((Sb c17 s40 (fun kq e => by cases e; exact lo15))).size; omega) (.inr fr43) (fun A44 cap45 w46 ho47 hg48 hat49 s50 => ?_)
  have nb51 : Nb b2 (.slice A44 ((0 + i) + (n - (i + 1))) cap45) := nb_app2 nb41 (Nat.lt_of_lt_of_le (blk_lt x6) (World.grownBy.size s40)) hat49
  have nb52 : Nb b9 (.slice A44 ((0 + i) + (n - (i + 1))) cap45) := nb_app2 nb42 (blk_lt x21) hat49
  have x21 := (hg48.block _ (blk_lt x21) nb42).trans x21
  have ho47 := own_joinP ho47
  have fr53 : ∀ kq, (.slice A44 ((0 + i) + (n - (i + 1))) cap45 : Value).ownBlock = some kq → w10.heap.size ≤ kq := fun kq e => by
    have hs := World.grownBy.size s40
    rcases hat49 with h | h
    · exact (show ∀ kq, Value.ownBlock _ = some kq → w10.heap.size ≤ kq from fr43) kq (h.symm.trans e)
    · have := Option.some.inj (h.symm.trans e); omega
  refine sq (v := .agg #[.int .i64 m, .slice A44 ((0 + i) + (n - (i + 1))) cap45]) rfl (r_build rfl (vs := [(0, .int .i64 m), (1, .slice A44 ((0 + i) + (n - (i + 1))) cap45)]) rfl (by kernel_rfl)) rfl rfl rfl ?_
  simp only [List.set_cons_zero, List.set_cons_succ]
  refine ss (j := 0) (news := [.int .i64 m, .slice A44 ((0 + i) + (n - (i + 1))) cap45]) (cs' := #[.int .i64 m, .slice A44 ((0 + i) + (n - (i + 1))) cap45]) s50 rfl rfl rfl rfl rfl rfl x21 rfl (by kernel_rfl) (by simp) rfl rfl (.inl rfl) (fun w54 g55 x56 s57 => ?_)
  have ho58 := own_grown ho47 g55 (fun j e1 e2 => by cases e2; exact nb52 e1.symm)
  refine sch_end ?_
  have x6 := Sk s57 x6 (by have := ne16; simp; omega)
  have c59 := (Sb c17 s57 (fun kq e => by cases e; exact lo15))
  apply h2
  refine wp_ret ?_
  try simp only [Exit.then]
  refine retC rfl rfl (by kernel_rfl) (by kernel_rfl) x56 ?_
  -- (([] ++ (ps.take i)) ++ (ps.drop (i + 1)))
  exact ⟨_, _, _, rfl, (by have h9 := own_rd ho58; rw [← join_take]; exact h9), own_fm ho58, c59⟩
end Go.Proofs.YtdlcldaogcbnlaaDoor
namespace Go.Proofs.YtdlcldaogcbnlaaDoor
open Go.RowKit
set_option linter.unusedVariables false
set_option linter.unusedSimpArgs false
set_option maxRecDepth 100000 in
set_option maxHeartbeats 8000000 in
theorem pipeIndexF_any (p : Pp) (id : Int) (B : Nat) (w : World) (hB : w.heap[B]? = some (.cells #[.int .i64 id] 3 (0, 0))) :
    Calls Tryd.prog 88 #[.agg #[.int .i64 p.id, .int .i64 p.fr, .int .i64 p.to, .int .i64 p.sz], .pointer (some ⟨B, 0, none⟩)] w fun e w' => e = .returned (.bool (decide (p.id = id))) ∧ Below w.heap.size w w' := by
 go_enter Tryd.func88, Tryd.ntmps88
 refine F.begin 8 [(0, .agg #[.int .i64 p.id, .int .i64 p.fr, .int .i64 p.to, .int .i64 p.sz]), (1, .pointer (some ⟨B, 0, none⟩))] (fun U0 => ?_)
 refine wk fun K1 h1 => ?_
 refine W.region_plain (row := none) [(0, true), (1, false)] kk ?_
 have s1 := SG.self w none
 refine W.sn (fun b => .pointer (some ⟨b, 0, none⟩)) #[.int .i64 p.id, .int .i64 p.fr, .int .i64 p.to, .int .i64 p.sz] 38 s1 rfl kk rfl (fun _ => by kernel_rfl) (fun b2 w3 hb4 k5 x6 s7 => ?_)
 apply F.nx
 have lo8 : w.heap.size ≤ b2 := Nl ((Sb (Below.refl _ _) s1 nkk)).size (Nat.le_of_eq hb4)
 refine Fa (.bool false) ?_
 apply F.es
 have hB := Sk s7 hB onn
 have c10 := (Sb (Below.refl _ _) s7 nkk)
 apply h1
 refine wk fun K2 h2 => ?_
 refine Rq 5 ?_
 refine Fq (.pointer (some ⟨b2, 0, none⟩)) (r_field0 rfl ek kk) ?_
 refine Fl (.int .i64 p.id) (eqS (blk_cell (j := 0) x6 kk)) ?_
 refine Fl (.int .i64 id) (eqS (blk_cell (j := 0) hB kk)) ?_
 by_cases q11 : (p.id : Int) = (id : Int)
 ·refine Fq (.bool true) (r_eql (m := p.id) (n := id) rfl ek ek (dt q11)) ?_
  refine Fa (.bool true) ?_
  apply F.es
  apply h2
  refine wp_ret ?_
  try simp only [Exit.then]
  refine ret1 (v := .bool true) rfl kk ?_
  exact ⟨by simp_all, c10⟩
 refine Fq (.bool false) (r_eql (m := p.id) (n := id) rfl ek ek (df q11)) ?_
 refine Fa (.bool false) ?_
 apply F.es
 apply h2
 refine wp_ret ?_
 try simp only [Exit.then]
 refine ret1 (v := .bool false) rfl kk ?_
 exact ⟨by simp_all, c10⟩
def idxP (q : Pp → Bool) : List Pp → Int
  | [] => -1
  | p :: ps => if q p = true then 0 else if idxP q ps < 0 then -1 else idxP q ps + 1
theorem idxP_at {q : Pp → Bool} : ∀ {ps : List Pp} {k : Nat} {x : Pp}, (∀ j z, j < k → ps[j]? = some z → q z = false) → ps[k]? = some x → q x = true → idxP q ps = (k : Int)
  | [], k, x, _, hx, _ => by simp at hx
  | p :: ps, 0, x, _, hx, e => by simp at hx; subst hx; unfold idxP; rw [if_pos e]; rfl
  | p :: ps, k + 1, x, h, hx, e => by
    have h0 := h 0 p (by omega) rfl
    have ih := idxP_at (q := q) (ps := ps) (k := k) (fun j z hj hz => h (j + 1) z (by omega) (by simpa using hz)) (by simpa using hx) e
    unfold idxP; rw [if_neg (by rw [h0]; simp), ih, if_neg (by omega)]; omega
theorem idxP_none {q : Pp → Bool} : ∀ {ps : List Pp}, (∀ (j : Nat) z, j < ps.length → ps[j]? = some z → q z = false) → idxP q ps = -1
  | [], _ => rfl
  | p :: ps, h => by
    have h0 := h 0 p (by simp) rfl
    have ih := idxP_none (q := q) (ps := ps) (fun j z hj hz => h (j + 1) z (by simp; omega) (by simpa using hz))
    unfold idxP; rw [if_neg (by rw [h0]; simp), ih]; rfl
theorem idxP_find (ps : List Pp) (v : Int) : idxP (fun p => decide (p.id = v)) ps = findL ps v := by
  induction ps with
  | nil => rfl
  | cons p ps ih => unfold idxP findL; rw [ih]; simp
set_option maxRecDepth 100000 in
set_option maxHeartbeats 8000000 in
theorem idxP_any (A : Option Addr) (n c : Nat) (ps : List Pp) (g : FuncId) (lb : Array Value) (q : Pp → Bool) (w : World) (ha : Rd w 4 A n (pipesV ps)) (hn : n ≤ 1048576) (he : enters Tryd.prog g = true) (HG : ∀ W p, Below w.heap.size w W → Calls Tryd.prog g (#[.agg #[.int .i64 p.id, .int .i64 p.fr, .int .i64 p.to, .int .i64 p.sz]] ++ lb) W fun e w' => e = .returned (.bool (q p)) ∧ Below W.heap.size W w') :
    Calls Tryd.prog 87 #[.slice A n c, .func (.func g) #[] lb] w fun e w' => e = .returned (.int .i64 (idxP q ps)) ∧ Below w.heap.size w w' := by
 have hl := rd_pipes_len ha
 go_enter Tryd.func87, Tryd.ntmps87
 refine F.begin 19 [(0, .slice A n c), (1, .func (.func g) #[] lb)] (fun U0 => ?_)
 refine wk fun K1 h1 => ?_
 refine Rq 1 ?_
 refine Fa (.int .i64 0) ?_
 apply F.es
 apply h1
 refine wk fun K2 h2 => ?_
 refine wk fun K3 h3 => ?_
 refine Rq 3 ?_
 refine Fv (.slice A n c) ?_
 refine Fq (.int .i64 (n : Int)) (r_len (A := A) (n := n) (c := c) rfl ek kk) ?_
 refine Fv (.int .i64 0) ?_
 apply F.es
 apply h3
 refine wp_block ?_
 refine loopK (fun am0 aa0 wl0 => ∃ (k : Nat) , Kn aa0 [(0, .slice A n c), (1, .func (.func g) #[] lb), (4, .int .i64 0), (7, .int .i64 (n : Int)), (8, .int .i64 (k : Int))] 19 ∧ (am0 = n - k) ∧ (k ≤ n) ∧ (∀ j z, j < k → ps[j]? = some z → q z = false) ∧ (Below w.heap.size w wl0)) (n - 0) ?_ ?_
 ·exact ⟨0, Kn.of, rfl, (Nat.zero_le _), (fun j z hj => absurd hj (by omega)), (Below.refl _ _)⟩
 rintro am0 aa0 wl0 K4 h4 ⟨k, ⟨U0, rfl⟩, rfl, hk, hno, c1⟩
 refine wk fun K5 h5 => ?_
 refine Rq 1 ?_
 by_cases q2 : ((k : Int) : Int) < ((n : Int) : Int)
 ·refine Fq (.bool true) (r_lss (m := (k : Int)) (n := (n : Int)) rfl ek ek (dt q2)) ?_
  apply F.es
  apply h5
  refine wk fun K6 h6 => ?_
  refine wp_cond_true ek ?_
  apply wp_skip
  apply h6
  refine wk fun K7 h7 => ?_
  refine wp_block ?_
  refine wk fun K8 h8 => ?_
  refine Rq 2 ?_
  refine Fv (.int .i64 (k : Int)) ?_
  refine Fa (.int .i64 (k : Int)) ?_
  apply F.es
  apply h8
  refine wk fun K9 h9 => ?_
  refine W.region_plain (row := none) [(0, false), (1, false), (2, false), (3, false), (4, false), (5, true)] kk ?_
  have s3 := SG.self wl0 none
  refine Fv (.func (.func g) #[] lb) ?_
  refine Fv (.slice A n c) ?_
  refine Fv (.int .i64 (k : Int)) ?_
  obtain ⟨x4, hx5⟩ := get_of (zs := ps) (k := k) (by have := hl; omega)
  obtain ⟨b6, o7, hA8, hb9, hc10, hc11, hc12, hc13⟩ := Rd.elPipe ha hx5
  refine Fq (.pointer (some ⟨b6, o7 + k * 4, none⟩)) (r_idx (n := n) (c := c) (k := k) rfl ek hA8 kk kk (by have := hl; omega)) ?_
  refine Fq (.agg #[.int .i64 x4.id, .int .i64 x4.fr, .int .i64 x4.to, .int .i64 x4.sz]) (r_load4 rfl ek kk kk (sgS (later c1 hc10) (by simp)) (sgS (later c1 hc11) (by simp)) (sgS (later c1 hc12) (by simp)) (sgS (later c1 hc13) (by simp))) ?_
  refine W.scv (vs := [.agg #[.int .i64 x4.id, .int .i64 x4.fr, .int .i64 x4.to, .int .i64 x4.sz]]) (g := g) (lb := lb) rfl rfl kk kk he kk rfl (HG _ x4 ((Sb c1 s3 nkk))) ?_
  rintro e w15 ⟨rfl, b14⟩
  have s16 := SG.of_below s3 b14
  refine ⟨_, rfl, s16, ?_⟩
  apply F.nx
  rcases Bool.eq_false_or_eq_true (q x4) with q17 | q17
  ·rw [q17]
   apply F.es
   have c18 := (Sb c1 s16 nkk)
   apply h9
   refine wp_cond_true ek ?_
   refine wk fun K10 h10 => ?_
   refine Rq 2 ?_
   refine Fv (.int .i64 (k : Int)) ?_
   refine Fa (.int .i64 (k : Int)) ?_
   apply F.es
   apply h10
   refine wp_ret ?_
   try simp only [Exit.then, Exit.inBlock]
   refine ret1 (v := .int .i64 (k : Int)) rfl kk ?_
   exact ⟨by rw [idxP_at hno hx5 q17]; try rfl, c18⟩
  rw [q17]
  apply F.es
  have c19 := (Sb c1 s16 nkk)
  apply h9
  refine wp_cond_false ek ?_
  apply wp_skip
  apply h7
  refine Rq 2 ?_
  refine Fq (.int .i64 ((k + 1 : Nat) : Int)) (r_add (m := (k : Int)) (n := 1) (z := ((k + 1 : Nat) : Int)) rfl ek ek (by omega) (by omega)) ?_
  refine Fv (.int .i64 ((k + 1 : Nat) : Int)) ?_
  apply F.es
  exact h4 _ _ _ (by omega : (n - (k + 1)) < _) ⟨k + 1, Kn.of, rfl, (by omega), (upto_succ (Q := fun z => q z = false) hno hx5 q17), c19⟩
 refine Fq (.bool false) (r_lss (m := (k : Int)) (n := (n : Int)) rfl ek ek (df q2)) ?_
 apply F.es
 apply h5
 refine wk fun K11 h11 => ?_
 refine wp_cond_false ek ?_
 refine wp_exit ?_
 apply h2
 refine wk fun K12 h12 => ?_
 refine Rq 1 ?_
 refine Fa (.int .i64 (-1)) ?_
 apply F.es
 apply h12
 refine wp_ret ?_
 try simp only [Exit.then]
 refine ret1 (v := .int .i64 (-1)) rfl kk ?_
 exact ⟨by rw [idxP_none (fun j z hj => hno j z (by omega))]; try rfl, c1⟩
set_option maxRecDepth 100000 in
set_option maxHeartbeats 8000000 in
theorem pipeIndex_any (m : Int) (A : Option Addr) (n c : Nat) (ps : List Pp) (v : Int) (w : World) (ha : Rd w 4 A n (pipesV ps)) (hn : n ≤ 1048576) :
    Calls Tryd.prog 60 #[.agg #[.int .i64 m, .slice A n c], .int .i64 v] w fun e w' => e = .returned (.int .i64 (findL ps v)) ∧ Below w.heap.size w w' := by
 have hl := rd_pipes_len ha
 go_enter Tryd.func60, Tryd.ntmps60
 refine F.begin 9 [(0, .agg #[.int .i64 m, .slice A n c]), (1, .int .i64 v)] (fun U0 => ?_)
 refine wk fun K1 h1 => ?_
 refine W.region_plain (row := none) [(0, true), (1, true), (2, false)] kk ?_
 have s1 := SG.self w none
 refine W.sn (fun b => .pointer (some ⟨b, 0, none⟩)) #[.int .i64 m, .slice A n c] 24 s1 rfl kk rfl (fun _ => by kernel_rfl) (fun b2 w3 hb4 k5 x6 s7 => ?_)
 apply F.nx
 have lo8 : w.heap.size ≤ b2 := Nl ((Sb (Below.refl _ _) s1 nkk)).size (Nat.le_of_eq hb4)
 refine W.sn (fun b => .pointer (some ⟨b, 0, none⟩)) #[.int .i64 v] 3 s7 rfl kk rfl (fun _ => by kernel_rfl) (fun b9 w10 hb11 k12 x13 s14 => ?_)
 apply F.nx
 have lo15 : w.heap.size ≤ b9 := Nl ((Sb (Below.refl _ _) s7 nkk)).size (Nat.le_of_eq hb11)
 have x6 := (k12.block _ (blk_lt x6)).trans x6
 refine Fa (.int .i64 0) ?_
 apply F.es
 have c17 := (Sb (Below.refl _ _) s14 nkk)
 apply h1
 refine wk fun K2 h2 => ?_
 refine W.region_plain (row := none) [(0, false), (1, false), (2, false), (3, true), (4, false)] kk ?_
 have s18 := SG.self w10 none
 refine Fq (.pointer (some ⟨b2, 1, none⟩)) (r_field (k := 1) rfl ek kk) ?_
 refine Fl (.slice A n c) (sgS (blk_cell (j := 1) x6 kk) onn) ?_
 refine Fq (.func (.func 88) #[] #[.pointer (some ⟨b9, 0, none⟩)]) (r_makeFunc (vs := [.pointer (some ⟨b9, 0, none⟩)]) rfl kk) ?_
 refine Fc [.slice A n c, .func (.func 88) #[] #[.pointer (some ⟨b9, 0, none⟩)]] (idxP_any A n c ps 88 #[.pointer (some ⟨b9, 0, none⟩)] (fun p => decide (p.id = v)) _ (Rk ha (Sb c17 s18 nkk)) (by omega) kk (fun W p hW => pipeIndexF_any p v b9 W ((hW.block _ (blk_lt x13)).trans x13))) ?_
 rintro e w20 ⟨rfl, b19⟩
 have s21 := SG.of_below s18 b19
 refine ⟨_, rfl, s21, ?_⟩
 apply F.nx
 refine Fa (.int .i64 (idxP (fun p => decide (p.id = v)) ps)) ?_
 apply F.es
 have c22 := (Sb c17 s21 nkk)
 apply h2
 refine wp_ret ?_
 try simp only [Exit.then]
 refine ret1 (v := .int .i64 (idxP (fun p => decide (p.id = v)) ps)) rfl kk ?_
 exact ⟨by rw [idxP_find]; try rfl, c22⟩
end Go.Proofs.YtdlcldaogcbnlaaDoor
namespace Go.Proofs.YtdlcldaogcbnlaaDoor
open Go.RowKit
set_option linter.unusedVariables false
set_option linter.unusedSimpArgs false
theorem fin_net {w w' : World} {e : TypeId} {A : Option Addr} {n c : Nat} {zs vs : List Pp} {m vm : Int} {b vb : Bool} (how : w'.ownsRow w.heap.size e 4 (.slice A n c) n (pipesV zs)) (hz : zs = vs) (hm : m = vm) (hb : b = vb) (bel : Below w.heap.size w w') :
    ∃ A' d, Ending.returned (.tuple #[.agg #[.int .i64 m, .slice A n c], .bool b]) = .returned (.tuple #[.agg #[.int .i64 vm, .slice A' vs.length d], .bool vb]) ∧ w'.ownsRow w.heap.size e 4 (.slice A' vs.length d) vs.length (pipesV vs) ∧ Below w.heap.size w w' := by
  subst hz hm hb
  have hl := rd_pipes_len (own_rd how)
  subst hl
  exact ⟨_, _, rfl, how, bel⟩
theorem fin_rdn {w w' : World} {A : Option Addr} {n c : Nat} {zs vs : List Pp} {m vm : Int} {b vb : Bool} (hr : Rd w' 4 A n (pipesV zs)) (hz : zs = vs) (hm : m = vm) (hb : b = vb) (bel : Below w.heap.size w w') :
    ∃ A' d, Ending.returned (.tuple #[.agg #[.int .i64 m, .slice A n c], .bool b]) = .returned (.tuple #[.agg #[.int .i64 vm, .slice A' vs.length d], .bool vb]) ∧ Rd w' 4 A' vs.length (pipesV vs) ∧ Below w.heap.size w w' := by
  subst hz hm hb
  have hl := rd_pipes_len hr
  subst hl
  exact ⟨_, _, rfl, hr, bel⟩
theorem sp_small {W : World} {n b : Nat} {A : Option Addr} {ps : List Pp} {cs : Array Value} {E : TypeId} {fz : Nat × Nat} (h : Rd W 4 A n (pipesV ps)) (hb : W.heap[b]? = some (.cells cs E fz)) (hs : cs.size < 4) : Sp A n (some b) := fun hn b' off e e2 => by
  obtain ⟨b9, off9, e9, _, hc⟩ := h.2 hn
  rw [e] at e9
  cases e9; cases e2
  cases ps with
  | nil => have := h.1; simp [pipesV] at this; omega
  | cons p ps =>
    have h1 := hc 3 (.int .i64 p.sz) (by simp [pipesV, Pp.vals])
    simp only [World.cell?, hb] at h1
    have h2 := (Array.getElem?_eq_some_iff.1 (by simpa using h1)).1
    omega
theorem rd_none4 (w : World) : Rd w 4 none 0 (pipesV []) := ⟨rfl, fun h => absurd h (by omega)⟩
end Go.Proofs.YtdlcldaogcbnlaaDoor
namespace Go.Proofs.YtdlcldaogcbnlaaDoor
open Go.RowKit
set_option linter.unusedVariables false
set_option linter.unusedSimpArgs false
def RemovePipe_v1 (m : Int) (ps : List Pp) (id : Int) : Bool := goodN m ps && decide (0 ≤ findL ps id)
def RemovePipe_m0 (m : Int) (ps : List Pp) (id : Int) : Int := if RemovePipe_v1 m ps id = true then m else 0
def RemovePipe_v0 (m : Int) (ps : List Pp) (id : Int) : List Pp := if RemovePipe_v1 m ps id = true then ps.eraseIdx (findL ps id).toNat else []
theorem rem_yes {m : Int} {ps : List Pp} {id : Int} (h : goodN m ps = true) (h2 : 0 ≤ findL ps id) : RemovePipe_v1 m ps id = true ∧ RemovePipe_m0 m ps id = m ∧ RemovePipe_v0 m ps id = ps.eraseIdx (findL ps id).toNat := by
  have h3 : RemovePipe_v1 m ps id = true := by unfold RemovePipe_v1; rw [h, decide_eq_true h2]; rfl
  exact ⟨h3, if_pos h3, if_pos h3⟩
theorem rem_no {m : Int} {ps : List Pp} {id : Int} (h : goodN m ps = false ∨ ¬ 0 ≤ findL ps id) : RemovePipe_v1 m ps id = false ∧ RemovePipe_m0 m ps id = 0 ∧ RemovePipe_v0 m ps id = [] := by
  have h3 : RemovePipe_v1 m ps id = false := by
    unfold RemovePipe_v1
    rcases h with h | h
    · rw [h]; rfl
    · rw [decide_eq_false h, Bool.and_false]
  exact ⟨h3, if_neg (by rw [h3]; simp), if_neg (by rw [h3]; simp)⟩
theorem findL_lt' (ps : List Pp) (v : Int) : findL ps v < (ps.length : Int) := by
  induction ps with
  | nil => simp [findL]
  | cons p ps ih => unfold findL; rw [List.length_cons]; split
                    · omega
                    · split <;> omega
theorem RemovePipe_len (m : Int) (ps : List Pp) (id : Int) : (RemovePipe_v0 m ps id).length ≤ 1048576 := by
  by_cases h : RemovePipe_v1 m ps id = true
  · have h2 := h
    unfold RemovePipe_v1 at h2
    rw [Bool.and_eq_true] at h2
    have hg := (good_of h2.1).len
    unfold RemovePipe_v0
    rw [if_pos h, List.length_eraseIdx]
    split <;> omega
  · unfold RemovePipe_v0; rw [if_neg h]; simp
theorem l2Without_z (m : Int) (A : Option Addr) (n c : Nat) (ps : List Pp) (z : Int) (i : Nat) (w : World) (ha : Rd w 4 A n (pipesV ps)) (hn : n ≤ 1048576) (hf : Fm A n c) (hi : i < n) (e : z = ((i : Nat) : Int)) :
    Calls Tryd.prog 65 #[.agg #[.int .i64 m, .slice A n c], .int .i64 z] w fun e w' => ∃ A' n' c', e = .returned (.agg #[.int .i64 m, .slice A' n' c']) ∧ Rd w' 4 A' n' (pipesV (ps.eraseIdx i)) ∧ Fm A' n' c' ∧ Below w.heap.size w w' := by
  subst e
  exact l2Without_any m A n c ps i w ha hn hf hi
set_option maxRecDepth 100000 in
set_option maxHeartbeats 8000000 in
theorem RemovePipe_spec (m : Int) (A : Option Addr) (n c : Nat) (ps : List Pp) (id : Int) (w : World) (ha : Rd w 4 A n (pipesV ps)) (hn : n ≤ 1048576) (hf : Fm A n c) :
    Calls Tryd.prog 25 #[.agg #[.int .i64 m, .slice A n c], .int .i64 id] w fun e w' => ∃ A' d, e = .returned (.tuple #[.agg #[.int .i64 (RemovePipe_m0 m ps id), .slice A' (RemovePipe_v0 m ps id).length d], .bool (RemovePipe_v1 m ps id)]) ∧ Rd w' 4 A' (RemovePipe_v0 m ps id).length (pipesV (RemovePipe_v0 m ps id)) ∧ Below w.heap.size w w' := by
  have hl := rd_pipes_len ha
  go_enter Tryd.func25, Tryd.ntmps25
  refine wp_seq_k (fun K1 h1 => ?_)
  refine W.region_plain (row := none) [(0, true), (1, true), (2, false)] (by kernel_rfl) ?_
  have s1 := SG.self w none
  refine W.sn (fun b => .pointer (some ⟨b, 0, none⟩)) #[.int .i64 m, .slice A n c] 24 s1 rfl (by kernel_rfl) rfl (fun _ => by kernel_rfl) (fun b2 w3 hb4 k5 x6 s7 => ?_)
  have lo8 : w.heap.size ≤ b2 := Nl ((Sb (Below.refl _ _) s1 nkk)).size (Nat.le_of_eq hb4)
  refine W.sn (fun b => .pointer (some ⟨b, 0, none⟩)) #[.int .i64 0, .slice none 0 0] 24 s7 rfl (by kernel_rfl) rfl (fun _ => by kernel_rfl) (fun b9 w10 hb11 k12 x13 s14 => ?_)
  have lo15 : w.heap.size ≤ b9 := Nl ((Sb (Below.refl _ _) s7 nkk)).size (Nat.le_of_eq hb11)
  have ne16 : b2 ≠ b9 := Nat.ne_of_lt (Nat.lt_of_lt_of_eq (blk_lt x6) hb11)
  have x6 := (k12.block _ (blk_lt x6)).trans x6
  refine W.as (v := .bool false) (h := ?_)
  refine W.endF 21 [(0, .agg #[.int .i64 m, .slice A n c]), (1, .int .i64 id), (2, .pointer (some ⟨b2, 0, none⟩)), (4, .pointer (some ⟨b9, 0, none⟩)), (5, .bool false)] (fun U17 => ?_)
  have c18 := (Sb (Below.refl _ _) s14 nkk)
  apply h1
  refine wp_seq_k (fun K2 h2 => ?_)
  refine W.region_plain (row := none) [(0, false), (1, false), (2, true), (3, false)] (by kernel_rfl) ?_
  have s19 := SG.self w10 none
  refine F.q (v := .agg #[.int .i64 m, .slice A n c]) (hr := (r_load2 rfl (ev_any (by kernel_rfl)) (by kernel_rfl) (by kernel_rfl) (sgS (blk_cell (j := 0) x6 (by kernel_rfl)) onn) (sgS (blk_cell (j := 1) x6 (by kernel_rfl)) onn))) (h := ?_)
  refine F.mv (v := .int .i64 id) (h := ?_)
  refine W.sc (vs := [.agg #[.int .i64 m, .slice A n c], .int .i64 id]) rfl rfl (by kernel_rfl) (by kernel_rfl) (by kernel_rfl) rfl (l2Find_any m A n c ps id _ (Rk ha (Sb c18 s19 nkk)) (by omega)) ?_
  rintro e w21 ⟨rfl, b20⟩
  have s22 := SG.of_below s19 b20
  refine ⟨_, rfl, s22, ?_⟩
  apply F.nx
  refine F.as (v := .int .i64 (findL ps id)) (h := ?_)
  refine F.endF [(0, .agg #[.int .i64 m, .slice A n c]), (1, .int .i64 id), (2, .pointer (some ⟨b2, 0, none⟩)), (4, .pointer (some ⟨b9, 0, none⟩)), (5, .bool false), (6, .int .i64 (findL ps id))] (fun U23 => ?_)
  have x6 := Sk s22 x6 onn
  have x13 := Sk s22 x13 onn
  have c24 := (Sb c18 s22 nkk)
  apply h2
  refine wp_seq_k (fun K3 h3 => ?_)
  refine wp_seq_k (fun K4 h4 => ?_)
  refine W.region_plain (row := none) [(0, false), (1, true), (2, false), (3, false), (4, false), (5, false), (6, false)] (by kernel_rfl) ?_
  have s25 := SG.self w21 none
  refine F.q (v := .agg #[.int .i64 m, .slice A n c]) (hr := (r_load2 rfl (ev_any (by kernel_rfl)) (by kernel_rfl) (by kernel_rfl) (sgS (blk_cell (j := 0) x6 (by kernel_rfl)) onn) (sgS (blk_cell (j := 1) x6 (by kernel_rfl)) onn))) (h := ?_)
  refine W.sc (vs := [.agg #[.int .i64 m, .slice A n c]]) rfl rfl (by kernel_rfl) (by kernel_rfl) (by kernel_rfl) rfl (l2Good_any m A n c ps _ (Rk ha (Sb c24 s25 nkk)) (by omega)) ?_
  rintro e w27 ⟨rfl, b26⟩
  have s28 := SG.of_below s25 b26
  refine ⟨_, rfl, s28, ?_⟩
  apply F.nx
  rcases Bool.eq_false_or_eq_true (goodN m ps) with q29 | q29
  · rw [q29]
    refine F.q (v := .bool false) (hr := (r_not (b := true) rfl (ev_any (by kernel_rfl)) rfl)) (h := ?_)
    refine F.mv (v := .bool false) (h := ?_)
    refine F.mv (v := .int .i64 (findL ps id)) (h := ?_)
    by_cases q30 : (findL ps id : Int) < (0 : Int)
    · refine F.q (v := .bool true) (hr := (r_lss (m := findL ps id) (n := 0) rfl (ev_any (by kernel_rfl)) (ev_any (by kernel_rfl)) (dt q30))) (h := ?_)
      refine F.q (v := .bool true) (hr := (r_pick (b := false) rfl (ev_any (by kernel_rfl)) (ev_any (by kernel_rfl)))) (h := ?_)
      refine F.endF [(0, .agg #[.int .i64 m, .slice A n c]), (1, .int .i64 id), (2, .pointer (some ⟨b2, 0, none⟩)), (4, .pointer (some ⟨b9, 0, none⟩)), (5, .bool false), (6, .int .i64 (findL ps id)), (16, .bool true)] (fun U31 => ?_)
      have x6 := Sk s28 x6 onn
      have x13 := Sk s28 x13 onn
      have c32 := (Sb c24 s28 nkk)
      apply h4
      refine wp_cond_true (by kernel_rfl) ?_
      refine wp_seq_k (fun K5 h5 => ?_)
      refine W.region_plain (row := (some b9)) [(0, false), (1, true), (2, false)] (by kernel_rfl) ?_
      have s33 := SG.self w27 (some b9)
      refine F.q (v := .agg #[.int .i64 0, .slice none 0 0]) (hr := (r_build rfl (vs := []) (by kernel_rfl) (by kernel_rfl))) (h := ?_)
      refine W.ss (v := .agg #[.int .i64 0, .slice none 0 0]) (j := 0) (news := [.int .i64 0, .slice none 0 0]) (cs' := #[.int .i64 0, .slice none 0 0]) s33 rfl (by kernel_rfl) rfl rfl (by kernel_rfl) (by kernel_rfl) x13 (by kernel_rfl) (by kernel_rfl) (by simp) (by kernel_rfl) (by kernel_rfl) (.inl rfl) (fun w34 g35 x36 s37 => ?_)
      refine F.as (v := .bool false) (h := ?_)
      refine F.endF [(0, .agg #[.int .i64 m, .slice A n c]), (1, .int .i64 id), (2, .pointer (some ⟨b2, 0, none⟩)), (4, .pointer (some ⟨b9, 0, none⟩)), (5, .bool false), (6, .int .i64 (findL ps id)), (16, .bool true)] (fun U38 => ?_)
      have x6 := Sk s37 x6 (fun e9 => ne16 (Option.some.inj e9))
      have c39 := (Sb c32 s37 (fun kq e => by cases e; exact lo15))
      apply h5
      refine wp_ret ?_
      try simp only [Exit.then]
      refine retCT (x := .bool false) rfl (by kernel_rfl) (by kernel_rfl) (by kernel_rfl) (by kernel_rfl) x36 ?_
      exact fin_rdn (rd_none4 _) (rem_no (.inr (by omega))).2.2.symm (rem_no (.inr (by omega))).2.1.symm (rem_no (.inr (by omega))).1.symm c39
    · refine F.q (v := .bool false) (hr := (r_lss (m := findL ps id) (n := 0) rfl (ev_any (by kernel_rfl)) (ev_any (by kernel_rfl)) (df q30))) (h := ?_)
      refine F.q (v := .bool false) (hr := (r_pick (b := false) rfl (ev_any (by kernel_rfl)) (ev_any (by kernel_rfl)))) (h := ?_)
      refine F.endF [(0, .agg #[.int .i64 m, .slice A n c]), (1, .int .i64 id), (2, .pointer (some ⟨b2, 0, none⟩)), (4, .pointer (some ⟨b9, 0, none⟩)), (5, .bool false), (6, .int .i64 (findL ps id)), (16, .bool false)] (fun U40 => ?_)
      have x6 := Sk s28 x6 onn
      have x13 := Sk s28 x13 onn
      have c41 := (Sb c24 s28 nkk)
      apply h4
      refine wp_cond_false (by kernel_rfl) ?_
      apply wp_skip
      apply h3
      refine wp_seq_k (fun K6 h6 => ?_)
      refine W.region_plain (row := (some b9)) [(0, false), (1, false), (2, true), (3, true), (4, false)] (by kernel_rfl) ?_
      have s42 := SG.self w27 (some b9)
      refine F.q (v := .agg #[.int .i64 m, .slice A n c]) (hr := (r_load2 rfl (ev_any (by kernel_rfl)) (by kernel_rfl) (by kernel_rfl) (sgS (blk_cell (j := 0) x6 (by kernel_rfl)) (fun e9 => ne16 (Option.some.inj e9))) (sgS (blk_cell (j := 1) x6 (by kernel_rfl)) (fun e9 => ne16 (Option.some.inj e9))))) (h := ?_)
      refine F.mv (v := .int .i64 (findL ps id)) (h := ?_)
      have hfl9 := findL_lt' ps id
      refine W.sc (vs := [.agg #[.int .i64 m, .slice A n c], .int .i64 (findL ps id)]) rfl rfl (by kernel_rfl) (by kernel_rfl) (by kernel_rfl) rfl (l2Without_z m A n c ps (findL ps id) (findL ps id).toNat _ (Rk ha (Sb c41 s42 (fun kq e => by cases e; exact lo15))) (by omega) hf (by omega) (by omega)) ?_
      rintro e w51 ⟨A43, n44, c45, rfl, rd46, fm47, b50⟩
      have s52 := SG.of_below s42 b50
      refine ⟨_, rfl, s52, ?_⟩
      apply F.nx
      have x13 := (b50.block _ (blk_lt x13)).trans x13
      have hl48 := rd_pipes_len rd46
      have sp53 := sp_small rd46 x13 (by decide)
      refine W.ss (v := .agg #[.int .i64 m, .slice A43 n44 c45]) (j := 0) (news := [.int .i64 m, .slice A43 n44 c45]) (cs' := #[.int .i64 m, .slice A43 n44 c45]) s52 rfl (by kernel_rfl) rfl rfl (by kernel_rfl) (by kernel_rfl) x13 (by kernel_rfl) (by kernel_rfl) (by simp) (by kernel_rfl) (by kernel_rfl) (.inl rfl) (fun w54 g55 x56 s57 => ?_)
      have rd58 := rd_sepG rd46 g55 sp53
      refine F.as (v := .bool true) (h := ?_)
      refine F.endF [(0, .agg #[.int .i64 m, .slice A n c]), (1, .int .i64 id), (2, .pointer (some ⟨b2, 0, none⟩)), (4, .pointer (some ⟨b9, 0, none⟩)), (5, .bool true), (6, .int .i64 (findL ps id)), (16, .bool false)] (fun U59 => ?_)
      have x6 := Sk s57 x6 (fun e9 => ne16 (Option.some.inj e9))
      have c60 := (Sb c41 s57 (fun kq e => by cases e; exact lo15))
      apply h6
      refine wp_ret ?_
      try simp only [Exit.then]
      refine retCT (x := .bool true) rfl (by kernel_rfl) (by kernel_rfl) (by kernel_rfl) (by kernel_rfl) x56 ?_
      exact fin_rdn rd58 (rem_yes q29 (by omega)).2.2.symm (rem_yes q29 (by omega)).2.1.symm (rem_yes q29 (by omega)).1.symm c60
  · rw [q29]
    refine F.q (v := .bool true) (hr := (r_not (b := false) rfl (ev_any (by kernel_rfl)) rfl)) (h := ?_)
    refine F.mv (v := .bool true) (h := ?_)
    refine F.sp s28 (h := ?_)
    refine F.sp s28 (h := ?_)
    refine F.q (v := .bool true) (hr := (r_pick (b := true) rfl (ev_any (by kernel_rfl)) (ev_any (by kernel_rfl)))) (h := ?_)
    refine F.endF [(0, .agg #[.int .i64 m, .slice A n c]), (1, .int .i64 id), (2, .pointer (some ⟨b2, 0, none⟩)), (4, .pointer (some ⟨b9, 0, none⟩)), (5, .bool false), (6, .int .i64 (findL ps id)), (16, .bool true)] (fun U61 => ?_)
    have x6 := Sk s28 x6 onn
    have x13 := Sk s28 x13 onn
    have c62 := (Sb c24 s28 nkk)
    apply h4
    refine wp_cond_true (by kernel_rfl) ?_
    refine wp_seq_k (fun K7 h7 => ?_)
    refine W.region_plain (row := (some b9)) [(0, false), (1, true), (2, false)] (by kernel_rfl) ?_
    have s63 := SG.self w27 (some b9)
    refine F.q (v := .agg #[.int .i64 0, .slice none 0 0]) (hr := (r_build rfl (vs := []) (by kernel_rfl) (by kernel_rfl))) (h := ?_)
    refine W.ss (v := .agg #[.int .i64 0, .slice none 0 0]) (j := 0) (news := [.int .i64 0, .slice none 0 0]) (cs' := #[.int .i64 0, .slice none 0 0]) s63 rfl (by kernel_rfl) rfl rfl (by kernel_rfl) (by kernel_rfl) x13 (by kernel_rfl) (by kernel_rfl) (by simp) (by kernel_rfl) (by kernel_rfl) (.inl rfl) (fun w64 g65 x66 s67 => ?_)
    refine F.as (v := .bool false) (h := ?_)
    refine F.endF [(0, .agg #[.int .i64 m, .slice A n c]), (1, .int .i64 id), (2, .pointer (some ⟨b2, 0, none⟩)), (4, .pointer (some ⟨b9, 0, none⟩)), (5, .bool false), (6, .int .i64 (findL ps id)), (16, .bool true)] (fun U68 => ?_)
    have x6 := Sk s67 x6 (fun e9 => ne16 (Option.some.inj e9))
    have c69 := (Sb c62 s67 (fun kq e => by cases e; exact lo15))
    apply h7
    refine wp_ret ?_
    try simp only [Exit.then]
    refine retCT (x := .bool false) rfl (by kernel_rfl) (by kernel_rfl) (by kernel_rfl) (by kernel_rfl) x66 ?_
    exact fin_rdn (rd_none4 _) (rem_no (.inl q29)).2.2.symm (rem_no (.inl q29)).2.1.symm (rem_no (.inl q29)).1.symm c69
set_option maxRecDepth 100000 in
set_option maxHeartbeats 8000000 in
theorem hasPipe_any (m : Int) (A : Option Addr) (n c : Nat) (ps : List Pp) (id : Int) (w : World) (ha : Rd w 4 A n (pipesV ps)) (hn : n ≤ 1048576) :
    Calls Tryd.prog 59 #[.agg #[.int .i64 m, .slice A n c], .int .i64 id] w fun e w' => e = .returned (.bool (RemovePipe_v1 m ps id)) ∧ Below w.heap.size w w' := by
  have hl := rd_pipes_len ha
  go_enter Tryd.func59, Tryd.ntmps59
  refine wp_seq_k (fun K1 h1 => ?_)
  refine W.region_plain (row := none) [(0, true), (1, false)] (by kernel_rfl) ?_
  have s1 := SG.self w none
  refine W.sn (fun b => .pointer (some ⟨b, 0, none⟩)) #[.int .i64 m, .slice A n c] 24 s1 rfl (by kernel_rfl) rfl (fun _ => by kernel_rfl) (fun b2 w3 hb4 k5 x6 s7 => ?_)
  have lo8 : w.heap.size ≤ b2 := Nl ((Sb (Below.refl _ _) s1 nkk)).size (Nat.le_of_eq hb4)
  refine W.as (v := .bool false) (h := ?_)
  refine W.endF 13 [(0, .agg #[.int .i64 m, .slice A n c]), (1, .int .i64 id), (2, .pointer (some ⟨b2, 0, none⟩)), (4, .bool false)] (fun U9 => ?_)
  have c10 := (Sb (Below.refl _ _) s7 nkk)
  apply h1
  refine wp_seq_k (fun K2 h2 => ?_)
  refine W.region_plain (row := none) [(0, false), (1, true), (2, false), (3, false), (4, false), (5, true), (6, false), (7, false), (8, false)] (by kernel_rfl) ?_
  have s11 := SG.self w3 none
  refine F.q (v := .agg #[.int .i64 m, .slice A n c]) (hr := (r_load2 rfl (ev_any (by kernel_rfl)) (by kernel_rfl) (by kernel_rfl) (sgS (blk_cell (j := 0) x6 (by kernel_rfl)) onn) (sgS (blk_cell (j := 1) x6 (by kernel_rfl)) onn))) (h := ?_)
  refine W.sc (vs := [.agg #[.int .i64 m, .slice A n c]]) rfl rfl (by kernel_rfl) (by kernel_rfl) (by kernel_rfl) rfl (IsValid_any m A n c ps _ (Rk ha (Sb c10 s11 nkk)) (by omega)) ?_
  rintro e w13 ⟨rfl, b12⟩
  have s14 := SG.of_below s11 b12
  refine ⟨_, rfl, s14, ?_⟩
  apply F.nx
  rcases Bool.eq_false_or_eq_true (goodN m ps) with q15 | q15
  · rw [q15]
    refine F.mv (v := .bool true) (h := ?_)
    refine F.q (v := .agg #[.int .i64 m, .slice A n c]) (hr := (r_load2 rfl (ev_any (by kernel_rfl)) (by kernel_rfl) (by kernel_rfl) (sgS (blk_cell (j := 0) x6 (by kernel_rfl)) onn) (sgS (blk_cell (j := 1) x6 (by kernel_rfl)) onn))) (h := ?_)
    refine F.mv (v := .int .i64 id) (h := ?_)
    refine W.sc (vs := [.agg #[.int .i64 m, .slice A n c], .int .i64 id]) rfl rfl (by kernel_rfl) (by kernel_rfl) (by kernel_rfl) rfl (pipeIndex_any m A n c ps id _ (Rk ha (Sb c10 s14 nkk)) (by omega)) ?_
    rintro e w17 ⟨rfl, b16⟩
    have s18 := SG.of_below s14 b16
    refine ⟨_, rfl, s18, ?_⟩
    apply F.nx
    by_cases q19 : (findL ps id : Int) ≥ (0 : Int)
    · refine F.q (v := .bool true) (hr := (r_geq (m := findL ps id) (n := 0) rfl (ev_any (by kernel_rfl)) (ev_any (by kernel_rfl)) (dt q19))) (h := ?_)
      refine F.q (v := .bool true) (hr := (r_pick (b := true) rfl (ev_any (by kernel_rfl)) (ev_any (by kernel_rfl)))) (h := ?_)
      refine F.as (v := .bool true) (h := ?_)
      refine F.endF [(0, .agg #[.int .i64 m, .slice A n c]), (1, .int .i64 id), (2, .pointer (some ⟨b2, 0, none⟩)), (4, .bool true)] (fun U20 => ?_)
      have x6 := Sk s18 x6 onn
      have c21 := (Sb c10 s18 nkk)
      apply h2
      refine wp_ret ?_
      try simp only [Exit.then]
      refine ret1 (v := .bool true) rfl (by kernel_rfl) ?_
      exact ⟨by rw [(rem_yes q15 (by omega)).1], c21⟩
    · refine F.q (v := .bool false) (hr := (r_geq (m := findL ps id) (n := 0) rfl (ev_any (by kernel_rfl)) (ev_any (by kernel_rfl)) (df q19))) (h := ?_)
      refine F.q (v := .bool false) (hr := (r_pick (b := true) rfl (ev_any (by kernel_rfl)) (ev_any (by kernel_rfl)))) (h := ?_)
      refine F.as (v := .bool false) (h := ?_)
      refine F.endF [(0, .agg #[.int .i64 m, .slice A n c]), (1, .int .i64 id), (2, .pointer (some ⟨b2, 0, none⟩)), (4, .bool false)] (fun U22 => ?_)
      have x6 := Sk s18 x6 onn
      have c23 := (Sb c10 s18 nkk)
      apply h2
      refine wp_ret ?_
      try simp only [Exit.then]
      refine ret1 (v := .bool false) rfl (by kernel_rfl) ?_
      exact ⟨by rw [(rem_no (.inr (by omega))).1], c23⟩
  · rw [q15]
    refine F.mv (v := .bool false) (h := ?_)
    refine F.sp s14 (h := ?_)
    refine F.sp s14 (h := ?_)
    refine F.sp s14 (h := ?_)
    refine F.sp s14 (h := ?_)
    refine F.q (v := .bool false) (hr := (r_pick (b := false) rfl (ev_any (by kernel_rfl)) (ev_any (by kernel_rfl)))) (h := ?_)
    refine F.as (v := .bool false) (h := ?_)
    refine F.endF [(0, .agg #[.int .i64 m, .slice A n c]), (1, .int .i64 id), (2, .pointer (some ⟨b2, 0, none⟩)), (4, .bool false)] (fun U24 => ?_)
    have x6 := Sk s14 x6 onn
    have c25 := (Sb c10 s14 nkk)
    apply h2
    refine wp_ret ?_
    try simp only [Exit.then]
    refine ret1 (v := .bool false) rfl (by kernel_rfl) ?_
    exact ⟨by rw [(rem_no (.inl q15)).1], c25⟩
set_option maxRecDepth 100000 in
set_option maxHeartbeats 8000000 in
theorem RemovePipe_impl (m : Int) (A : Option Addr) (n c : Nat) (ps : List Pp) (id : Int) (w : World) (ha : Rd w 4 A n (pipesV ps)) (hn : n ≤ 1048576) (hf : Fm A n c) :
    Calls Tryd.prog 21 #[.agg #[.int .i64 m, .slice A n c], .int .i64 id] w fun e w' => ∃ A' d, e = .returned (.tuple #[.agg #[.int .i64 (RemovePipe_m0 m ps id), .slice A' (RemovePipe_v0 m ps id).length d], .bool (RemovePipe_v1 m ps id)]) ∧ w'.ownsRow w.heap.size 38 4 (.slice A' (RemovePipe_v0 m ps id).length d) (RemovePipe_v0 m ps id).length (pipesV (RemovePipe_v0 m ps id)) ∧ Below w.heap.size w w' := by
  have hl := rd_pipes_len ha
  go_enter Tryd.func21, Tryd.ntmps21
  refine wp_seq_k (fun K1 h1 => ?_)
  refine W.region_plain (row := none) [(0, true), (1, true), (2, false)] (by kernel_rfl) ?_
  have s1 := SG.self w none
  refine W.sn (fun b => .pointer (some ⟨b, 0, none⟩)) #[.int .i64 m, .slice A n c] 24 s1 rfl (by kernel_rfl) rfl (fun _ => by kernel_rfl) (fun b2 w3 hb4 k5 x6 s7 => ?_)
  have lo8 : w.heap.size ≤ b2 := Nl ((Sb (Below.refl _ _) s1 nkk)).size (Nat.le_of_eq hb4)
  refine W.sn (fun b => .pointer (some ⟨b, 0, none⟩)) #[.int .i64 0, .slice none 0 0] 24 s7 rfl (by kernel_rfl) rfl (fun _ => by kernel_rfl) (fun b9 w10 hb11 k12 x13 s14 => ?_)
  have lo15 : w.heap.size ≤ b9 := Nl ((Sb (Below.refl _ _) s7 nkk)).size (Nat.le_of_eq hb11)
  have ne16 : b2 ≠ b9 := Nat.ne_of_lt (Nat.lt_of_lt_of_eq (blk_lt x6) hb11)
  have x6 := (k12.block _ (blk_lt x6)).trans x6
  refine W.as (v := .bool false) (h := ?_)
  refine W.endF 26 [(0, .agg #[.int .i64 m, .slice A n c]), (1, .int .i64 id), (2, .pointer (some ⟨b2, 0, none⟩)), (4, .pointer (some ⟨b9, 0, none⟩)), (5, .bool false)] (fun U17 => ?_)
  have c18 := (Sb (Below.refl _ _) s14 nkk)
  apply h1
  refine wp_seq_k (fun K2 h2 => ?_)
  refine wp_seq_k (fun K3 h3 => ?_)
  refine W.region_plain (row := none) [(0, false), (1, false), (2, true), (3, false)] (by kernel_rfl) ?_
  have s19 := SG.self w10 none
  refine F.q (v := .agg #[.int .i64 m, .slice A n c]) (hr := (r_load2 rfl (ev_any (by kernel_rfl)) (by kernel_rfl) (by kernel_rfl) (sgS (blk_cell (j := 0) x6 (by kernel_rfl)) onn) (sgS (blk_cell (j := 1) x6 (by kernel_rfl)) onn))) (h := ?_)
  refine F.mv (v := .int .i64 id) (h := ?_)
  refine W.sc (vs := [.agg #[.int .i64 m, .slice A n c], .int .i64 id]) rfl rfl (by kernel_rfl) (by kernel_rfl) (by kernel_rfl) rfl (hasPipe_any m A n c ps id _ (Rk ha (Sb c18 s19 nkk)) (by omega)) ?_
  rintro e w21 ⟨rfl, b20⟩
  have s22 := SG.of_below s19 b20
  refine ⟨_, rfl, s22, ?_⟩
  apply F.nx
  rcases Bool.eq_false_or_eq_true (RemovePipe_v1 m ps id) with q23 | q23
  · rw [q23]
    have hrp := Bool.and_eq_true_iff.1 (show (goodN m ps && decide (0 ≤ findL ps id)) = true from q23)
    have hf0 := of_decide_eq_true hrp.2
    have hgl := (good_of hrp.1).len
    have hfl9 := findL_lt' ps id
    refine F.q (v := .bool false) (hr := (r_not (b := true) rfl (ev_any (by kernel_rfl)) rfl)) (h := ?_)
    refine F.endF [(0, .agg #[.int .i64 m, .slice A n c]), (1, .int .i64 id), (2, .pointer (some ⟨b2, 0, none⟩)), (4, .pointer (some ⟨b9, 0, none⟩)), (5, .bool false), (10, .bool false)] (fun U24 => ?_)
    have x6 := Sk s22 x6 onn
    have x13 := Sk s22 x13 onn
    have c25 := (Sb c18 s22 nkk)
    apply h3
    refine wp_cond_false (by kernel_rfl) ?_
    apply wp_skip
    apply h2
    refine wp_seq_k (fun K4 h4 => ?_)
    refine W.region_plain (row := none) [(0, false), (1, false), (2, true), (3, false)] (by kernel_rfl) ?_
    have s26 := SG.self w21 none
    refine F.q (v := .agg #[.int .i64 m, .slice A n c]) (hr := (r_load2 rfl (ev_any (by kernel_rfl)) (by kernel_rfl) (by kernel_rfl) (sgS (blk_cell (j := 0) x6 (by kernel_rfl)) onn) (sgS (blk_cell (j := 1) x6 (by kernel_rfl)) onn))) (h := ?_)
    refine F.mv (v := .int .i64 id) (h := ?_)
    refine W.sc (vs := [.agg #[.int .i64 m, .slice A n c], .int .i64 id]) rfl rfl (by kernel_rfl) (by kernel_rfl) (by kernel_rfl) rfl (pipeIndex_any m A n c ps id _ (Rk ha (Sb c25 s26 nkk)) (by omega)) ?_
    rintro e w28 ⟨rfl, b27⟩
    have s29 := SG.of_below s26 b27
    refine ⟨_, rfl, s29, ?_⟩
    apply F.nx
    refine F.as (v := .int .i64 (findL ps id)) (h := ?_)
    refine F.endF [(0, .agg #[.int .i64 m, .slice A n c]), (1, .int .i64 id), (2, .pointer (some ⟨b2, 0, none⟩)), (4, .pointer (some ⟨b9, 0, none⟩)), (5, .bool false), (6, .int .i64 (findL ps id)), (10, .bool false)] (fun U30 => ?_)
    have x6 := Sk s29 x6 onn
    have x13 := Sk s29 x13 onn
    have c31 := (Sb c25 s29 nkk)
    apply h4
    refine wp_seq_k (fun K5 h5 => ?_)
    refine W.region_sch (row := (some b9)) (Sch.of [(0, false), (1, false), (3, false), (4, false), (6, false), (7, false), (8, false), (2, true), (5, true), (9, true), (10, false), (11, true), (12, false)]) (by kernel_rfl) (by kernel_rfl) (fun _ d _ _ _ h => by cases d <;> exact h) (by kernel_rfl) (fun w32 e33 s34 => ?_)
    have x35 := (heap_same e33 x13)
    refine F.q (v := .pointer (some ⟨b2, 0, none⟩)) (hr := (r_field0 rfl (ev_any (by kernel_rfl)) (by kernel_rfl))) (h := ?_)
    refine F.ld (v := .int .i64 m) (hc := (sgS (blk_cell (j := 0) x6 (by kernel_rfl)) (fun e9 => ne16 (Option.some.inj e9)))) (h := ?_)
    refine F.q (v := .pointer (some ⟨b2, 1, none⟩)) (hr := (r_field (k := 1) rfl (ev_any (by kernel_rfl)) (by kernel_rfl))) (h := ?_)
    refine F.ld (v := .slice A n c) (hc := (sgS (blk_cell (j := 1) x6 (by kernel_rfl)) (fun e9 => ne16 (Option.some.inj e9)))) (h := ?_)
    refine F.mv (v := .int .i64 (findL ps id)) (h := ?_)
    refine F.mv (v := .int .i64 (findL ps id)) (h := ?_)
    refine F.q (v := .int .i64 (findL ps id + 1)) (hr := (r_add (m := findL ps id) (n := 1) (z := findL ps id + 1) rfl (ev_any (by kernel_rfl)) (ev_any (by kernel_rfl)) (rfl) (by omega))) (h := ?_)
    refine W.sn (fun b => .slice (some ⟨b, 0, none⟩) 0 0) #[] 38 s34 rfl (by kernel_rfl) rfl (fun _ => by kernel_rfl) (fun b36 w37 hb38 k39 x40 s41 => ?_)
    apply F.nx
    have lo42 : w.heap.size ≤ b36 := Nl ((Sb c31 s34 (fun kq e => by cases e; exact lo15))).size (Nat.le_of_eq hb38)
    have ne43 : b2 ≠ b36 := Nat.ne_of_lt (Nat.lt_of_lt_of_eq (Nat.lt_of_lt_of_le (blk_lt x6) (s34).size) hb38)
    have ne44 : b9 ≠ b36 := Nat.ne_of_lt (Nat.lt_of_lt_of_eq (blk_lt x35) hb38)
    have x35 := (k39.block _ (blk_lt x35)).trans x35
    have ho45 := own_empty (base := w.heap.size) (size := 4) x40 lo42
    replace ho45 : World.ownsRow _ _ _ _ _ _ (pipesV []) := ho45
    have nb46 : Nb b2 (.slice (some ⟨b36, 0, none⟩) 0 0) := nb_new ne43
    have nb47 : Nb b9 (.slice (some ⟨b36, 0, none⟩) 0 0) := nb_new ne44
    replace ho45 : World.ownsRow _ _ _ _ _ _ (pipesV []) := ho45
    refine W.sapR (e := 38) (size := 4) (base := w.heap.size) (v := .slice (some ⟨b36, 0, none⟩) 0 0) (A := A) (m := n) (c := c) s41 rfl rfl rfl rfl (by kernel_rfl) (by kernel_rfl) (by kernel_rfl) ho45 (Rk ha (Sb c31 s41 (fun kq e => by cases e; exact lo15))) hf (pipes_one _) (by omega) (by have := ((Sb c31 s41 (fun kq e => by cases e; exact lo15))).size; omega) (.inr (fun kq e => by have := (s34).size; have := hb38; have e' := Option.some.inj e; simp at e'; omega)) (fun A48 cap49 w50 ho51 hg52 hat53 s54 => ?_)
    apply F.nx
    have nb55 : Nb b2 (.slice A48 (0 + n) cap49) := nb_app2 nb46 (Nat.lt_of_lt_of_le (blk_lt x6) (s41).size) hat53
    have nb56 : Nb b9 (.slice A48 (0 + n) cap49) := nb_app2 nb47 (blk_lt x35) hat53
    have x35 := (hg52.block _ (blk_lt x35) nb47).trans x35
    have ho51 := own_joinP ho51
    have fr57 : ∀ kq, (.slice A48 (0 + n) cap49 : Value).ownBlock = some kq → w28.heap.size ≤ kq := fun kq e => by
      have hs := (s41).size
      rcases hat53 with h | h
      · exact (show ∀ kq, Value.ownBlock _ = some kq → w28.heap.size ≤ kq from (fun kq e => by have := (s34).size; have := hb38; have e' := Option.some.inj e; simp at e'; omega)) kq (h.symm.trans e)
      · have := Option.some.inj (h.symm.trans e); omega
    refine W.sc (vs := [.slice A48 (0 + n) cap49, .int .i64 (findL ps id), .int .i64 (findL ps id + 1)]) rfl rfl (by kernel_rfl) (by kernel_rfl) (by kernel_rfl) rfl (DeleteP_any A48 (0 + n) cap49 ps (findL ps id).toNat w.heap.size (findL ps id) (findL ps id + 1) _ ho51 (by omega) (by omega) (by omega) (by omega)) ?_
    rintro e w59 ⟨rfl, ho61, g60⟩
    have s62 := SG.of_grown s54 g60 (.inr fr57)
    refine ⟨_, rfl, s62, ?_⟩
    apply F.nx
    have nb64 : Nb b2 (.slice A48 ((0 + n) - 1) cap49) := nb_app3 (v := .slice A48 (0 + n) cap49) nb55 (Nat.lt_of_lt_of_le (blk_lt x6) (s54).size) (.inl ob_same)
    have nb65 : Nb b9 (.slice A48 ((0 + n) - 1) cap49) := nb_app3 (v := .slice A48 (0 + n) cap49) nb56 (blk_lt x35) (.inl ob_same)
    have x35 := (g60.block _ (blk_lt x35) nb56).trans x35
    have fr66 : ∀ kq, (.slice A48 ((0 + n) - 1) cap49 : Value).ownBlock = some kq → w28.heap.size ≤ kq := fun kq e => by
      have hs := (s54).size
      rcases (show (.slice A48 ((0 + n) - 1) cap49 : Value).ownBlock = (.slice A48 (0 + n) cap49 : Value).ownBlock ∨ ∀ k9, (.slice A48 ((0 + n) - 1) cap49 : Value).ownBlock = some k9 → w50.heap.size ≤ k9 from (.inl ob_same)) with h | h
      · exact (show ∀ kq, (.slice A48 (0 + n) cap49 : Value).ownBlock = some kq → w28.heap.size ≤ kq from fr57) kq (by rw [← h]; exact e)
      · have := h kq e; omega
    refine F.q (v := .agg #[.int .i64 m, .slice A48 ((0 + n) - 1) cap49]) (hr := (r_build rfl (vs := [(0, .int .i64 m), (1, .slice A48 ((0 + n) - 1) cap49)]) (by kernel_rfl) (by kernel_rfl))) (h := ?_)
    refine W.ss (v := .agg #[.int .i64 m, .slice A48 ((0 + n) - 1) cap49]) (j := 0) (news := [.int .i64 m, .slice A48 ((0 + n) - 1) cap49]) (cs' := #[.int .i64 m, .slice A48 ((0 + n) - 1) cap49]) s62 rfl (by kernel_rfl) rfl rfl (by kernel_rfl) (by kernel_rfl) x35 (by kernel_rfl) (by kernel_rfl) (by simp) (by kernel_rfl) (by kernel_rfl) (.inl rfl) (fun w67 g68 x69 s70 => ?_)
    have ho71 := own_grown ho61 g68 (fun j e1 e2 => by cases e2; exact nb65 e1.symm)
    refine F.as (v := .bool true) (h := ?_)
    refine F.endF [(0, .agg #[.int .i64 m, .slice A n c]), (1, .int .i64 id), (2, .pointer (some ⟨b2, 0, none⟩)), (4, .pointer (some ⟨b9, 0, none⟩)), (5, .bool true), (6, .int .i64 (findL ps id)), (10, .bool false)] (fun U72 => ?_)
    have x6 := Sk s70 x6 (fun e9 => ne16 (Option.some.inj e9))
    have c73 := (Sb c31 s70 (fun kq e => by cases e; exact lo15))
    apply h5
    refine wp_ret ?_
    try simp only [Exit.then]
    refine retCT (x := .bool true) rfl (by kernel_rfl) (by kernel_rfl) (by kernel_rfl) (by kernel_rfl) x69 ?_
    exact fin_net ho71 (rem_yes hrp.1 hf0).2.2.symm (rem_yes hrp.1 hf0).2.1.symm (rem_yes hrp.1 hf0).1.symm c73
  · rw [q23]
    refine F.q (v := .bool true) (hr := (r_not (b := false) rfl (ev_any (by kernel_rfl)) rfl)) (h := ?_)
    refine F.endF [(0, .agg #[.int .i64 m, .slice A n c]), (1, .int .i64 id), (2, .pointer (some ⟨b2, 0, none⟩)), (4, .pointer (some ⟨b9, 0, none⟩)), (5, .bool false), (10, .bool true)] (fun U74 => ?_)
    have x6 := Sk s22 x6 onn
    have x13 := Sk s22 x13 onn
    have c75 := (Sb c18 s22 nkk)
    apply h3
    refine wp_cond_true (by kernel_rfl) ?_
    refine wp_seq_k (fun K6 h6 => ?_)
    refine W.region_plain (row := (some b9)) [(0, false), (1, true), (2, false)] (by kernel_rfl) ?_
    have s76 := SG.self w21 (some b9)
    refine F.q (v := .agg #[.int .i64 0, .slice none 0 0]) (hr := (r_build rfl (vs := []) (by kernel_rfl) (by kernel_rfl))) (h := ?_)
    refine W.ss (v := .agg #[.int .i64 0, .slice none 0 0]) (j := 0) (news := [.int .i64 0, .slice none 0 0]) (cs' := #[.int .i64 0, .slice none 0 0]) s76 rfl (by kernel_rfl) rfl rfl (by kernel_rfl) (by kernel_rfl) x13 (by kernel_rfl) (by kernel_rfl) (by simp) (by kernel_rfl) (by kernel_rfl) (.inl rfl) (fun w77 g78 x79 s80 => ?_)
    refine F.as (v := .bool false) (h := ?_)
    refine F.endF [(0, .agg #[.int .i64 m, .slice A n c]), (1, .int .i64 id), (2, .pointer (some ⟨b2, 0, none⟩)), (4, .pointer (some ⟨b9, 0, none⟩)), (5, .bool false), (10, .bool true)] (fun U81 => ?_)
    have x6 := Sk s80 x6 (fun e9 => ne16 (Option.some.inj e9))
    have c82 := (Sb c75 s80 (fun kq e => by cases e; exact lo15))
    apply h6
    refine wp_ret ?_
    try simp only [Exit.then]
    refine retCT (x := .bool false) rfl (by kernel_rfl) (by kernel_rfl) (by kernel_rfl) (by kernel_rfl) x79 ?_
    exact fin_net (zs := []) (World.ownsRow_nil _ _ _ _) (show RemovePipe_v1 m ps id = false ∧ RemovePipe_m0 m ps id = 0 ∧ RemovePipe_v0 m ps id = [] from ⟨q23, if_neg (by rw [q23]; simp), if_neg (by rw [q23]; simp)⟩).2.2.symm (show RemovePipe_v1 m ps id = false ∧ RemovePipe_m0 m ps id = 0 ∧ RemovePipe_v0 m ps id = [] from ⟨q23, if_neg (by rw [q23]; simp), if_neg (by rw [q23]; simp)⟩).2.1.symm (show RemovePipe_v1 m ps id = false ∧ RemovePipe_m0 m ps id = 0 ∧ RemovePipe_v0 m ps id = [] from ⟨q23, if_neg (by rw [q23]; simp), if_neg (by rw [q23]; simp)⟩).1.symm c82
end Go.Proofs.YtdlcldaogcbnlaaDoor
namespace Go.Proofs.YtdlcldaogcbnlaaDoor
open Go.RowKit
set_option linter.unusedVariables false
set_option linter.unusedSimpArgs false
def atL (ps : List Pp) (u : Int) : List Int := (ps.filter (fun p => decide (p.fr = u) || decide (p.to = u))).map Pp.id
theorem atL_len (ps : List Pp) (u : Int) : (atL ps u).length ≤ ps.length := by unfold atL; rw [List.length_map]; exact List.length_filter_le _ _
theorem atL_yes {ps : List Pp} {u : Int} {k : Nat} {x : Pp} (hx : ps[k]? = some x) (h : x.fr = u ∨ x.to = u) : atL (ps.take (k + 1)) u = atL (ps.take k) u ++ [x.id] := by
  unfold atL
  rw [List.take_add_one, hx, Option.toList_some, List.filter_append, List.map_append, List.filter_cons_of_pos (by simpa using h)]; rfl
theorem atL_no {ps : List Pp} {u : Int} {k : Nat} {x : Pp} (hx : ps[k]? = some x) (h : ¬ (x.fr = u ∨ x.to = u)) : atL (ps.take (k + 1)) u = atL (ps.take k) u := by
  unfold atL
  rw [List.take_add_one, hx, Option.toList_some, List.filter_append, List.filter_cons_of_neg (by simpa using h)]; simp
theorem atL_all {ps : List Pp} {u : Int} {n k : Nat} (hl : ps.length = n) (hk : n ≤ k) : atL (ps.take k) u = atL ps u := by rw [List.take_of_length_le (by omega)]
def PipesAt_v0 (m : Int) (ps : List Pp) (u : Int) : List Int := if (goodN m ps && inB u 1 m) = true then atL ps u else []
def PipesAt_v1 (m : Int) (ps : List Pp) (u : Int) : Bool := goodN m ps && inB u 1 m
theorem PipesAt_len (m : Int) (ps : List Pp) (u : Int) : (PipesAt_v0 m ps u).length ≤ 1048576 := by
  unfold PipesAt_v0
  split
  · rename_i h
    rw [Bool.and_eq_true] at h
    have := (good_of h.1).len
    have := atL_len ps u
    omega
  · simp
set_option maxRecDepth 100000 in
set_option maxHeartbeats 8000000 in
theorem PipesAt_impl (m : Int) (A : Option Addr) (n c : Nat) (ps : List Pp) (v : Int) (w : World) (ha : Rd w 4 A n (pipesV ps)) (hn : n ≤ 1048576) :
    Calls Tryd.prog 22 #[.agg #[.int .i64 m, .slice A n c], .int .i64 v] w fun e w' => ∃ A' d, e = .returned (.tuple #[.slice A' (PipesAt_v0 m ps v).length d, .bool (PipesAt_v1 m ps v)]) ∧ w'.ownsRow w.heap.size 3 1 (.slice A' (PipesAt_v0 m ps v).length d) (PipesAt_v0 m ps v).length (intsV (PipesAt_v0 m ps v)) ∧ Below w.heap.size w w' := by
 have hl := rd_pipes_len ha
 go_enter Tryd.func22, Tryd.ntmps22
 refine F.begin 32 [(0, .agg #[.int .i64 m, .slice A n c]), (1, .int .i64 v)] (fun U0 => ?_)
 refine wk fun K1 h1 => ?_
 refine W.region_plain (row := none) [(0, true), (1, false), (2, false)] kk ?_
 have s1 := SG.self w none
 refine W.sn (fun b => .pointer (some ⟨b, 0, none⟩)) #[.int .i64 m, .slice A n c] 24 s1 rfl kk rfl (fun _ => by kernel_rfl) (fun b2 w3 hb4 k5 x6 s7 => ?_)
 apply F.nx
 have lo8 : w.heap.size ≤ b2 := Nl ((Sb (Below.refl _ _) s1 nkk)).size (Nat.le_of_eq hb4)
 refine Fa (.slice none 0 0) ?_
 refine Fa (.bool false) ?_
 apply F.es
 have c9 := (Sb (Below.refl _ _) s7 nkk)
 apply h1
 refine wk fun K2 h2 => ?_
 refine wk fun K3 h3 => ?_
 refine W.region_plain (row := none) [(0, false), (1, false), (2, true), (3, false)] kk ?_
 have s10 := SG.self w3 none
 refine Fq (.agg #[.int .i64 m, .slice A n c]) (r_load2 rfl ek kk kk (sgS (blk_cell (j := 0) x6 kk) onn) (sgS (blk_cell (j := 1) x6 kk) onn)) ?_
 refine Fv (.int .i64 v) ?_
 refine Fc [.agg #[.int .i64 m, .slice A n c], .int .i64 v] (hasNode_any m A n c ps v _ (Rk ha (Sb c9 s10 nkk)) (by omega)) ?_
 rintro e w12 ⟨rfl, b11⟩
 have s13 := SG.of_below s10 b11
 refine ⟨_, rfl, s13, ?_⟩
 apply F.nx
 rcases Bool.eq_false_or_eq_true (goodN m ps && inB v 1 m) with q14 | q14
 ·rw [q14]
  have hg := good_of (Bool.and_eq_true_iff.1 q14).1
  refine Fq (.bool false) (r_not (b := true) rfl ek rfl) ?_
  apply F.es
  have x6 := Sk s13 x6 onn
  have c15 := (Sb c9 s13 nkk)
  apply h3
  refine wp_cond_false ek ?_
  apply wp_skip
  apply h2
  refine wk fun K4 h4 => ?_
  refine W.region_plain (row := none) [(0, true), (1, false)] kk ?_
  have s16 := SG.self w12 none
  refine W.sn (fun b => .slice (some ⟨b, 0, none⟩) 0 0) #[] 3 s16 rfl kk rfl (fun _ => by kernel_rfl) (fun b17 w18 hb19 k20 x21 s22 => ?_)
  apply F.nx
  have lo23 : w.heap.size ≤ b17 := Nl ((Sb c15 s16 nkk)).size (Nat.le_of_eq hb19)
  have ne24 : b2 ≠ b17 := Nat.ne_of_lt (Nat.lt_of_lt_of_eq (Nat.lt_of_lt_of_le (blk_lt x6) (s16).size) hb19)
  refine Fa (.slice (some ⟨b17, 0, none⟩) 0 0) ?_
  apply F.es
  have x6 := Sk s22 x6 onn
  have c25 := (Sb c15 s22 nkk)
  apply h4
  refine wk fun K5 h5 => ?_
  refine wk fun K6 h6 => ?_
  refine Rq 4 ?_
  refine Fq (.pointer (some ⟨b2, 1, none⟩)) (r_field (k := 1) rfl ek kk) ?_
  refine Fl (.slice A n c) (eqS (blk_cell (j := 1) x6 kk)) ?_
  refine Fq (.int .i64 (n : Int)) (r_len (A := A) (n := n) (c := c) rfl ek kk) ?_
  refine Fv (.int .i64 0) ?_
  apply F.es
  apply h6
  refine wp_block ?_
  have ho26 := own_empty (base := w.heap.size) (size := 1) x21 lo23
  replace ho26 : World.ownsRow _ _ _ _ _ _ (intsV []) := ho26
  have nb27 : Nb b2 (.slice (some ⟨b17, 0, none⟩) 0 0) := nb_new ne24
  refine loopK (fun am0 aa0 wl0 => ∃ (k : Nat) (A0_6 : Option Addr) (n0_6 : Nat) (c0_6 : Nat) , Kn aa0 [(0, .agg #[.int .i64 m, .slice A n c]), (1, .int .i64 v), (2, .pointer (some ⟨b2, 0, none⟩)), (4, .slice none 0 0), (5, .bool false), (6, .slice A0_6 n0_6 c0_6), (12, .bool false), (15, .slice A n c), (16, .int .i64 (n : Int)), (17, .int .i64 (k : Int))] 32 ∧ (am0 = n - k) ∧ (k ≤ n) ∧ (n0_6 ≤ k) ∧ (wl0.heap[b2]? = some (.cells #[.int .i64 m, .slice A n c] 24 (0, 0))) ∧ (wl0.ownsRow w.heap.size 3 1 (.slice A0_6 n0_6 c0_6) n0_6 (intsV (atL (ps.take k) v))) ∧ (Nb b2 (.slice A0_6 n0_6 c0_6)) ∧ (Below w.heap.size w wl0)) (n - 0) ?_ ?_
  ·exact ⟨0, (some ⟨b17, 0, none⟩), 0, 0, Kn.of, rfl, (Nat.zero_le _), (Nat.zero_le _), x6, ho26, nb27, c25⟩
  rintro am0 aa0 wl0 K7 h7 ⟨k, A0_6, n0_6, c0_6, ⟨U0, rfl⟩, rfl, hk, hb6, x6, ho0_6, nb0_6_b2, c28⟩
  refine wk fun K8 h8 => ?_
  refine Rq 1 ?_
  by_cases q29 : ((k : Int) : Int) < ((n : Int) : Int)
  ·refine Fq (.bool true) (r_lss (m := (k : Int)) (n := (n : Int)) rfl ek ek (dt q29)) ?_
   apply F.es
   apply h8
   refine wk fun K9 h9 => ?_
   refine wp_cond_true ek ?_
   apply wp_skip
   apply h9
   refine wk fun K10 h10 => ?_
   refine wp_block ?_
   refine wk fun K11 h11 => ?_
   refine W.region_plain (row := none) [(0, false), (1, false), (2, true), (3, true)] kk ?_
   have s30 := SG.self wl0 none
   obtain ⟨x31, hx32⟩ := get_of (zs := ps) (k := k) (by have := hl; omega)
   obtain ⟨b33, o34, hA35, hb36, hc37, hc38, hc39, hc40⟩ := Rd.elPipe ha hx32
   refine Fq (.pointer (some ⟨b33, o34 + k * 4, none⟩)) (r_idx (n := n) (c := c) (k := k) rfl ek hA35 kk kk (by have := hl; omega)) ?_
   refine Fq (.agg #[.int .i64 x31.id, .int .i64 x31.fr, .int .i64 x31.to, .int .i64 x31.sz]) (r_load4 rfl ek kk kk (sgS (later c28 hc37) (by simp)) (sgS (later c28 hc38) (by simp)) (sgS (later c28 hc39) (by simp)) (sgS (later c28 hc40) (by simp))) ?_
   refine W.sn (fun b => .pointer (some ⟨b, 0, none⟩)) #[.int .i64 0, .int .i64 0, .int .i64 0, .int .i64 0] 38 s30 rfl kk rfl (fun _ => by kernel_rfl) (fun b41 w42 hb43 k44 x45 s46 => ?_)
   apply F.nx
   have lo47 : w.heap.size ≤ b41 := Nl ((Sb c28 s30 nkk)).size (Nat.le_of_eq hb43)
   have nb49 : Nb b41 (.slice A0_6 n0_6 c0_6) := nb_hi ho0_6 (Nat.le_of_eq hb43)
   have ho50 := own_kept ho0_6 k44
   refine W.ss (v := .agg #[.int .i64 x31.id, .int .i64 x31.fr, .int .i64 x31.to, .int .i64 x31.sz]) (j := 0) (news := [.int .i64 x31.id, .int .i64 x31.fr, .int .i64 x31.to, .int .i64 x31.sz]) (cs' := #[.int .i64 x31.id, .int .i64 x31.fr, .int .i64 x31.to, .int .i64 x31.sz]) s46 rfl kk rfl rfl kk kk x45 kk kk (by simp) kk kk (.inr (Nl (s30).size (Nat.le_of_eq hb43))) (fun w51 g52 x53 s54 => ?_)
   have ho55 := own_grown ho50 g52 (fun j e1 e2 => by cases e2; exact nb49 e1.symm)
   apply F.es
   have x6 := Sk s54 x6 onn
   have c56 := (Sb c28 s54 nkk)
   apply h11
   refine wk fun K12 h12 => ?_
   refine W.region_plain (row := none) [(0, false), (1, false), (2, true), (3, false)] kk ?_
   have s57 := SG.self w51 none
   refine Fq (.agg #[.int .i64 x31.id, .int .i64 x31.fr, .int .i64 x31.to, .int .i64 x31.sz]) (r_load4 rfl ek kk kk (sgS (blk_cell (j := 0) x53 kk) onn) (sgS (blk_cell (j := 1) x53 kk) onn) (sgS (blk_cell (j := 2) x53 kk) onn) (sgS (blk_cell (j := 3) x53 kk) onn)) ?_
   refine Fv (.int .i64 v) ?_
   refine Fc [.agg #[.int .i64 x31.id, .int .i64 x31.fr, .int .i64 x31.to, .int .i64 x31.sz], .int .i64 v] (other_any x31 v _) ?_
   rintro e w59 ⟨rfl, b58⟩
   have s60 := SG.of_below s57 b58
   refine ⟨_, rfl, s60, ?_⟩
   apply F.nx
   have ho61 := own_kept ho55 b58
   by_cases q62 : (otherOf x31 v : Int) > (0 : Int)
   ·refine Fq (.bool true) (r_gtr (m := otherOf x31 v) (n := 0) rfl ek ek (dt q62)) ?_
    apply F.es
    have x6 := Sk s60 x6 onn
    have x53 := Sk s60 x53 onn
    have c63 := (Sb c56 s60 nkk)
    apply h12
    refine wp_cond_true ek ?_
    refine W.region_plain (row := (Value.ownBlock (.slice A0_6 n0_6 c0_6))) [(0, false), (1, false), (2, false), (3, true), (4, true), (5, false)] kk ?_
    have s64 := SG.self w59 (Value.ownBlock (.slice A0_6 n0_6 c0_6))
    refine Fv (.slice A0_6 n0_6 c0_6) ?_
    refine Fq (.pointer (some ⟨b41, 0, none⟩)) (r_field0 rfl ek kk) ?_
    refine Fl (.int .i64 x31.id) (sgS (blk_cell (j := 0) x53 kk) nb49) ?_
    refine W.sn (fun b => .slice (some ⟨b, 0, none⟩) 1 1) #[.int .i64 x31.id] 3 s64 rfl kk rfl (fun _ => by kernel_rfl) (fun b65 w66 hb67 k68 x69 s70 => ?_)
    apply F.nx
    have lo71 : w.heap.size ≤ b65 := Nl ((Sb c63 s64 (fun kq e => (World.ownsRow.lt ho61 kq e).1))).size (Nat.le_of_eq hb67)
    have ho75 := own_kept ho61 k68
    refine W.sap (e := 3) (size := 1) (base := w.heap.size) (m := 1) (v := .slice A0_6 n0_6 c0_6) (c := 1) s70 rfl rfl rfl rfl kk kk kk ho75 x69 kk kk (by omega) (by omega) (by have := ((Sb c63 s70 (fun kq e => (World.ownsRow.lt ho61 kq e).1))).size; omega) (.inl rfl) (fun g76 cap77 w78 ho79 hg80 hat81 hlt82 s83 => ?_)
    apply F.nx
    have nb84 : Nb b2 (.slice (some ⟨g76, 0, none⟩) (n0_6 + 1) cap77) := nb_app nb0_6_b2 (Nat.lt_of_lt_of_le (blk_lt x6) (s70).size) hat81
    have ho79 := own_snoc ho79
    refine Fa (.slice (some ⟨g76, 0, none⟩) (n0_6 + 1) cap77) ?_
    apply F.es
    have x6 := Sk s83 x6 nb0_6_b2
    have c87 := (Sb c63 s83 (fun kq e => (World.ownsRow.lt ho61 kq e).1))
    apply h10
    refine Rq 2 ?_
    refine Fq (.int .i64 ((k + 1 : Nat) : Int)) (r_add (m := (k : Int)) (n := 1) (z := ((k + 1 : Nat) : Int)) rfl ek ek (by omega) (by omega)) ?_
    refine Fv (.int .i64 ((k + 1 : Nat) : Int)) ?_
    apply F.es
    exact h7 _ _ _ (by omega : (n - (k + 1)) < _) ⟨k + 1, (some ⟨g76, 0, none⟩), (n0_6 + 1), cap77, Kn.of, rfl, (by omega), (by omega), x6, (by rw [atL_yes hx32 (by have h0 := hg.at hx32; have h1 := (other_pos (u := v) h0.2.1.1 h0.2.2.1.1); have h2 := q62; first | exact h1.1 h2 | exact fun h3 => h2 (h1.2 h3))]; exact ho79), nb84, c87⟩
   refine Fq (.bool false) (r_gtr (m := otherOf x31 v) (n := 0) rfl ek ek (df q62)) ?_
   apply F.es
   have x6 := Sk s60 x6 onn
   have c88 := (Sb c56 s60 nkk)
   apply h12
   refine wp_cond_false ek ?_
   apply wp_skip
   apply h10
   refine Rq 2 ?_
   refine Fq (.int .i64 ((k + 1 : Nat) : Int)) (r_add (m := (k : Int)) (n := 1) (z := ((k + 1 : Nat) : Int)) rfl ek ek (by omega) (by omega)) ?_
   refine Fv (.int .i64 ((k + 1 : Nat) : Int)) ?_
   apply F.es
   exact h7 _ _ _ (by omega : (n - (k + 1)) < _) ⟨k + 1, A0_6, n0_6, c0_6, Kn.of, rfl, (by omega), (by omega), x6, (by rw [atL_no hx32 (by have h0 := hg.at hx32; have h1 := (other_pos (u := v) h0.2.1.1 h0.2.2.1.1); have h2 := q62; first | exact h1.1 h2 | exact fun h3 => h2 (h1.2 h3))]; exact ho61), nb0_6_b2, c88⟩
  refine Fq (.bool false) (r_lss (m := (k : Int)) (n := (n : Int)) rfl ek ek (df q29)) ?_
  apply F.es
  apply h8
  refine wk fun K13 h13 => ?_
  refine wp_cond_false ek ?_
  refine wp_exit ?_
  apply h5
  refine wk fun K14 h14 => ?_
  refine Rq 3 ?_
  refine Fv (.slice A0_6 n0_6 c0_6) ?_
  refine Fa (.slice A0_6 n0_6 c0_6) ?_
  refine Fa (.bool true) ?_
  apply F.es
  apply h14
  refine wp_ret ?_
  try simp only [Exit.then]
  refine ret2 (v := .slice A0_6 n0_6 c0_6) (x := .bool true) rfl kk kk ?_
  exact fin_ints ho0_6 (by unfold PipesAt_v0; rw [if_pos q14]; exact atL_all hl (by omega)) (by unfold PipesAt_v1; exact q14.symm) c28
 rw [q14]
 refine Fq (.bool true) (r_not (b := false) rfl ek rfl) ?_
 apply F.es
 have c89 := (Sb c9 s13 nkk)
 apply h3
 refine wp_cond_true ek ?_
 refine wk fun K15 h15 => ?_
 refine Rq 2 ?_
 refine Fa (.slice none 0 0) ?_
 refine Fa (.bool false) ?_
 apply F.es
 apply h15
 refine wp_ret ?_
 try simp only [Exit.then]
 refine ret2 (v := .slice none 0 0) (x := .bool false) rfl kk kk ?_
 exact fin_ints (zs := []) (World.ownsRow_nil _ _ _ _) (by unfold PipesAt_v0; rw [if_neg (by rw [q14]; simp)]) (by unfold PipesAt_v1; exact q14.symm) c89
end Go.Proofs.YtdlcldaogcbnlaaDoor
namespace Go.Proofs.YtdlcldaogcbnlaaDoor
open Go.RowKit
set_option linter.unusedVariables false
set_option linter.unusedSimpArgs false
theorem line_inj {p q : Pp} (hp : okP p) (hq : okP q) (e : lineOf p = lineOf q) : p = q := by
  have hr := line_rel (s := lineOf p) (x0 := itoaB p.id ++ (⟨#[58]⟩ : ByteArray)) (x1 := itoaB p.fr ++ (⟨#[45]⟩ : ByteArray) ++ itoaB p.to) (x3 := itoaB p.sz) (y0 := itoaB p.fr) (y1 := itoaB p.to)
    (by rw [split_line]; rfl) (by rw [split_line]; rfl) (by rw [split_line]; rfl) (by rw [split_ends hp.2.1.1 hp.2.2.1.1]; rfl) (by rw [split_ends hp.2.1.1 hp.2.2.1.1]; rfl) rfl
  exact (hr p hp rfl).1.symm.trans (hr q hq e).1
theorem lines_inj : ∀ {ps qs : List Pp}, (∀ p ∈ ps, okP p) → (∀ p ∈ qs, okP p) → ps.map lineOf = qs.map lineOf → ps = qs
  | [], [], _, _, _ => rfl
  | [], _ :: _, _, _, e => by cases e
  | _ :: _, [], _, _, e => by cases e
  | p :: ps, q :: qs, hp, hq, e => by
    have e1 := List.cons.inj e
    rw [line_inj (hp p (.head _)) (hq q (.head _)) e1.1, lines_inj (fun z hz => hp z (.tail _ hz)) (fun z hz => hq z (.tail _ hz)) e1.2]
theorem text_inj {m m2 : Int} {ps qs : List Pp} (h : goodN m ps = true) (g : goodN m2 qs = true) (e : textN m ps = textN m2 qs) : m = m2 ∧ ps = qs := by
  have e2 : splitL (textN m ps) 10 = splitL (textN m2 qs) 10 := by rw [e]
  rw [split_text, split_text] at e2
  have e3 := List.cons.inj e2
  have e4 : splitL (headOf m) 32 = splitL (headOf m2) 32 := by rw [e3.1]
  rw [split_head, split_head] at e4
  have e5 : itoaB m = itoaB m2 := (List.cons.inj (List.cons.inj e4).2).1
  have e6 : ps.map lineOf = qs.map lineOf := List.append_inj_left' e3.2 rfl
  exact ⟨itoaB_inj e5, lines_inj (fun p hp => good_okP h hp) (fun p hp => good_okP g hp) e6⟩
theorem text_back {m : Int} {ps : List Pp} (h : NetworkText_v1 m ps = true) : ParseNetwork_v1 (NetworkText_v0 m ps) = true ∧ ParseNetwork_v0m (NetworkText_v0 m ps) = m ∧ ParseNetwork_v0 (NetworkText_v0 m ps) = ps :=
  have h : goodN m ps = true := h
  pn_yes h (nt_yes h).2.symm (fun m2 qs g e => text_inj h g ((nt_yes h).2.symm.trans e.symm))
theorem parse_back {s : ByteArray} (h : ParseNetwork_v1 s = true) : NetworkText_v1 (ParseNetwork_v0m s) (ParseNetwork_v0 s) = true ∧ NetworkText_v0 (ParseNetwork_v0m s) (ParseNetwork_v0 s) = s := by
  have hn : isNet s := by unfold ParseNetwork_v1 at h; simpa using h
  have e : PNof s = hn.choose := dif_pos hn
  have hc := hn.choose_spec
  unfold ParseNetwork_v0m ParseNetwork_v0
  rw [e]
  exact ⟨hc.1, (nt_yes hc.1).2.trans hc.2⟩
theorem line_size {p : Pp} (h : (-1000000 ≤ p.id ∧ p.id ≤ 1000000) ∧ (-1000000 ≤ p.fr ∧ p.fr ≤ 1000000) ∧ (-1000000 ≤ p.to ∧ p.to ≤ 1000000) ∧ -1000000 ≤ p.sz ∧ p.sz ≤ 1000000) : (lineB p).size ≤ 94 := by
  have h1 := itoaB_le (n := p.id) (by omega) (by omega)
  have h2 := itoaB_le (n := p.fr) (by omega) (by omega)
  have h3 := itoaB_le (n := p.to) (by omega) (by omega)
  have h4 := itoaB_le (n := p.sz) (by omega) (by omega)
  unfold lineB
  simp only [ByteArray.size_append, sz2, sz6]
  have s1 : (⟨#[45]⟩ : ByteArray).size = 1 := rfl
  have s2 : (⟨#[10]⟩ : ByteArray).size = 1 := rfl
  omega
theorem lines_size : ∀ (ps : List Pp) (a : ByteArray), (∀ p ∈ ps, (-1000000 ≤ p.id ∧ p.id ≤ 1000000) ∧ (-1000000 ≤ p.fr ∧ p.fr ≤ 1000000) ∧ (-1000000 ≤ p.to ∧ p.to ≤ 1000000) ∧ -1000000 ≤ p.sz ∧ p.sz ≤ 1000000) → (ps.foldl (fun s p => s ++ lineB p) a).size ≤ a.size + 94 * ps.length
  | [], a, _ => by simp
  | p :: ps, a, h => by
    have h1 := lines_size ps (a ++ lineB p) (fun z hz => h z (.tail _ hz))
    have h2 := line_size (h p (.head _))
    rw [List.foldl_cons, List.length_cons]
    rw [ByteArray.size_append] at h1
    omega
theorem ntext_size {m : Int} {ps : List Pp} (h : smallN m ps) : (textN m ps).size ≤ 10000 := by
  have h1 := lines_size ps ((⟨#[110, 111, 100, 101, 115, 32]⟩ : ByteArray) ++ itoaB m ++ (⟨#[10]⟩ : ByteArray)) h.2.2
  have h2 := itoaB_le (n := m) (by have := h.1; omega) (by have := h.1; omega)
  have h3 := h.2.1
  simp only [ByteArray.size_append, sz6] at h1
  have s2 : (⟨#[10]⟩ : ByteArray).size = 1 := rfl
  unfold textN
  omega
theorem nt_size (m : Int) (ps : List Pp) : (NetworkText_v0 m ps).size ≤ 10000 := by
  by_cases h : goodN m ps = true
  · rw [(nt_yes h).2]; exact ntext_size (good_small h)
  · unfold NetworkText_v0; rw [if_neg h]; exact Nat.zero_le _
theorem find_rise {m : Int} {ps : List Pp} (h : GoodNet m ps) {i : Nat} {p : Pp} (hp : ps[i]? = some p) : findL ps p.id = (i : Int) := by
  refine findL_at (fun j z hj hz e => ?_) hp rfl
  have hlt := (List.getElem?_eq_some_iff.1 hp).1
  have h1 := List.pairwise_iff_getElem.1 h.rise j i (by omega) hlt hj
  rw [(List.getElem?_eq_some_iff.1 hz).2, (List.getElem?_eq_some_iff.1 hp).2] at h1
  omega
theorem insAtP_le (ps : List Pp) (a : Int) : insAtP ps a ≤ ps.length := by
  unfold insAtP
  exact List.Sublist.length_le (List.takeWhile_sublist _)
theorem moreP_get (ps : List Pp) (x : Pp) : (moreP ps x)[insAtP ps x.id]? = some x := by
  have h := insAtP_le ps x.id
  unfold moreP
  rw [List.getElem?_append_right (by rw [List.length_take]; omega), List.length_take, Nat.min_eq_left h, Nat.sub_self]
  rfl
theorem moreP_erase (ps : List Pp) (x : Pp) : (moreP ps x).eraseIdx (insAtP ps x.id) = ps := by
  have h := insAtP_le ps x.id
  unfold moreP
  rw [List.eraseIdx_append_of_length_le (by rw [List.length_take]; omega), List.length_take, Nat.min_eq_left h, Nat.sub_self]
  show ps.take (insAtP ps x.id) ++ ps.drop (insAtP ps x.id) = ps
  exact List.take_append_drop _ _
theorem add_law {m : Int} {ps : List Pp} {x : Pp} (h : AddPipe_v1 m ps x = true) :
    (RemovePipe_v1 (AddPipe_m0 m ps x) (AddPipe_v0 m ps x) x.id = true ∧ RemovePipe_m0 (AddPipe_m0 m ps x) (AddPipe_v0 m ps x) x.id = m ∧ RemovePipe_v0 (AddPipe_m0 m ps x) (AddPipe_v0 m ps x) x.id = ps) ∧
      PipesAt_v1 (AddPipe_m0 m ps x) (AddPipe_v0 m ps x) x.fr = true ∧ (PipesAt_v0 (AddPipe_m0 m ps x) (AddPipe_v0 m ps x) x.fr).contains x.id = true := by
  have e1 : AddPipe_m0 m ps x = m := if_pos h
  have e2 : AddPipe_v0 m ps x = moreP ps x := if_pos h
  have h2 := h
  unfold AddPipe_v1 at h2
  rw [Bool.and_eq_true] at h2
  have hg := good_of h2.2
  have hx := moreP_get ps x
  have hf := find_rise hg hx
  have hm : x ∈ moreP ps x := List.mem_of_getElem? hx
  rw [e1, e2]
  obtain ⟨r1, r2, r3⟩ := rem_yes (id := x.id) h2.2 (by omega)
  have hi : inB x.fr 1 m = true := inB_iff.2 (by have := hg.pipe hm; omega)
  have hv : PipesAt_v1 m (moreP ps x) x.fr = true := by unfold PipesAt_v1; rw [h2.2, hi]; rfl
  refine ⟨⟨r1, r2, ?_⟩, hv, ?_⟩
  · rw [r3, hf]; exact moreP_erase ps x
  · have e3 : PipesAt_v0 m (moreP ps x) x.fr = atL (moreP ps x) x.fr := if_pos hv
    rw [e3, List.contains_iff_mem]
    unfold atL
    exact List.mem_map.2 ⟨x, List.mem_filter.2 ⟨hm, by simp⟩, rfl⟩
end Go.Proofs.YtdlcldaogcbnlaaDoor
namespace Go.Proofs.YtdlcldaogcbnlaaDoor
open Go.RowKit
set_option linter.unusedVariables false
set_option linter.unusedSimpArgs false
def freshA (H : Nat) (A : Option Addr) (n : Nat) : Prop := 0 < n → ∀ b off, A = some ⟨b, off, none⟩ → H ≤ b
theorem freshA_of {w : World} {base size n c k : Nat} {e : TypeId} {A : Option Addr} {xs : List Value} (h : w.ownsRow base e size (.slice A n c) k xs) {m : Nat} (hm : m ≤ n) : freshA base A m := fun hp b off e1 => (World.ownsRow.lt h b (by rw [e1]; rfl)).1
theorem sp_fresh {H n g : Nat} {A : Option Addr} (h : freshA H A n) (hg : g < H) : Sp A n (some g) := fun hp b off e e2 => by
  have := h hp b off e
  cases e2; omega
theorem smD_small {k : Nat} {m : Int} {ps : List Pp} (h : smD k m ps) (hk : k ≤ 100) : smallN m ps := by
  obtain ⟨h1, h2, h3⟩ := h
  refine ⟨by omega, by omega, fun p hp => ?_⟩
  have := h3 p hp
  unfold smP at this
  omega
set_option maxRecDepth 100000 in
set_option maxHeartbeats 8000000 in
theorem pipeOf_any (B N k : Nat) (m : Int) (A : Option Addr) (n c : Nat) (ps : List Pp) (w : World) (hc : Cur w B N k) (hk : k ≤ 900000000000) (ha : Rd w 4 A n (pipesV ps)) (hsp : Sp A n (some B)) (hn : n ≤ 30) (hm : m ≤ 1000) :
    Calls Tryd.prog 64 #[.pointer (some ⟨B, 0, none⟩), .agg #[.int .i64 m, .slice A n c]] w fun e w' => ∃ x, e = .returned (.int .i64 x) ∧ (True) ∧ Cur w' B N (k + 4) ∧ w.grownBy w' (some B) := by
 have hN := Cur.hN hc
 have hlpl := rd_pipes_len ha
 go_enter Tryd.func64, Tryd.ntmps64
 refine F.begin 25 [(0, .pointer (some ⟨B, 0, none⟩)), (1, .agg #[.int .i64 m, .slice A n c])] (fun U0 => ?_)
 refine wk fun K1 h1 => ?_
 refine W.region_plain (row := none) [(0, true), (1, false)] kk ?_
 have s1 := SG.self w none
 refine W.sn (fun b => .pointer (some ⟨b, 0, none⟩)) #[.int .i64 m, .slice A n c] 24 s1 rfl kk rfl (fun _ => by kernel_rfl) (fun b2 w3 hb4 k5 x6 s7 => ?_)
 apply F.nx
 have lo8 : w.heap.size ≤ b2 := Nl ((SG.fr (B := B) (World.grownBy.refl _ _) s1 nkk)).size (Nat.le_of_eq hb4)
 have ne10 : B ≠ b2 := Nat.ne_of_lt (Nat.lt_of_lt_of_eq (Nat.lt_of_lt_of_le (Cur.lt hc) (s1).size) hb4)
 refine Fa (.int .i64 0) ?_
 apply F.es
 have hc := Cur.below hc (SG.below s7)
 have c11 := (SG.fr (B := B) (World.grownBy.refl _ _) s7 nkk)
 have rd12 := Rk ha (SG.below s7)
 apply h1
 refine wk fun K2 h2 => ?_
 refine wk fun K3 h3 => ?_
 refine W.region_plain (row := (some B)) [(0, false), (1, false), (2, false), (3, false), (4, false), (5, false), (6, true), (7, false)] kk ?_
 have s13 := SG.self w3 (some B)
 refine Fq (.pointer (some ⟨b2, 1, none⟩)) (r_field (k := 1) rfl ek kk) ?_
 refine Fl (.slice A n c) (sgS (blk_cell (j := 1) x6 kk) (fun e9 => ne10 (Option.some.inj e9).symm)) ?_
 refine Fq (.int .i64 (n : Int)) (r_len (A := A) (n := n) (c := c) rfl ek kk) ?_
 by_cases q14 : ((n : Int) : Int) = (0 : Int)
 ·refine Fq (.bool true) (r_eql (m := (n : Int)) (n := 0) rfl ek ek (dt q14)) ?_
  refine Fv (.bool true) ?_
  refine Fs s13 ?_
  refine Fs s13 ?_
  refine Fq (.bool true) (r_pick (b := true) rfl ek ek) ?_
  apply F.es
  have x6 := Sk s13 x6 (fun e9 => ne10 (Option.some.inj e9).symm)
  have c15 := (SG.fr (B := B) c11 s13 (fun kq e => .inl (by cases e; rfl)))
  apply h3
  refine wp_cond_true ek ?_
  refine wk fun K4 h4 => ?_
  refine W.region_plain (row := (some B)) [(0, false), (1, true), (2, false)] kk ?_
  have s17 := SG.self w3 (some B)
  refine Fv (.pointer (some ⟨B, 0, none⟩)) ?_
  refine Fc [.pointer (some ⟨B, 0, none⟩), .int .i64 20] (pick_any B N k 20 _ hc (by omega) (by omega)) ?_
  rintro e w21 ⟨x18, rfl, hx19, x23, g22⟩
  have s24 := SG.of_grown s17 g22 (.inl rfl)
  refine ⟨_, rfl, s24, ?_⟩
  apply F.nx
  refine Fa (.int .i64 x18) ?_
  apply F.es
  have x6 := Sk s24 x6 (fun e9 => ne10 (Option.some.inj e9).symm)
  have c25 := (SG.fr (B := B) c15 s24 (fun kq e => .inl (by cases e; rfl)))
  apply h4
  refine wp_ret ?_
  try simp only [Exit.then]
  refine ret1 (v := .int .i64 x18) rfl kk ?_
  exact ⟨_, rfl, trivial, Cur.mono x23 (by omega), c25⟩
 refine Fq (.bool false) (r_eql (m := (n : Int)) (n := 0) rfl ek ek (df q14)) ?_
 refine Fv (.bool false) ?_
 refine Fv (.pointer (some ⟨B, 0, none⟩)) ?_
 refine Fc [.pointer (some ⟨B, 0, none⟩), .int .i64 10] (one_any B N k 10 _ hc (by omega) (by omega)) ?_
 rintro e w30 ⟨b27, rfl, _, x32, g31⟩
 have s33 := SG.of_grown s13 g31 (.inl rfl)
 refine ⟨_, rfl, s33, ?_⟩
 apply F.nx
 rcases Bool.eq_false_or_eq_true b27 with q34 | q34
 ·rw [q34]
  refine Fq (.bool true) (r_pick (b := false) rfl ek ek) ?_
  apply F.es
  have x6 := Sk s33 x6 (fun e9 => ne10 (Option.some.inj e9).symm)
  have c35 := (SG.fr (B := B) c11 s33 (fun kq e => .inl (by cases e; rfl)))
  apply h3
  as_aux_lemma =>
   refine wp_cond_true ek ?_
   refine wk fun K5 h5 => ?_
   refine W.region_plain (row := (some B)) [(0, false), (1, true), (2, false)] kk ?_
   have s37 := SG.self w30 (some B)
   refine Fv (.pointer (some ⟨B, 0, none⟩)) ?_
   refine Fc [.pointer (some ⟨B, 0, none⟩), .int .i64 20] (pick_any B N (k + 2) 20 _ x32 (by omega) (by omega)) ?_
   rintro e w41 ⟨x38, rfl, hx39, x43, g42⟩
   have s44 := SG.of_grown s37 g42 (.inl rfl)
   refine ⟨_, rfl, s44, ?_⟩
   apply F.nx
   refine Fa (.int .i64 x38) ?_
   apply F.es
   have x6 := Sk s44 x6 (fun e9 => ne10 (Option.some.inj e9).symm)
   have c45 := (SG.fr (B := B) c35 s44 (fun kq e => .inl (by cases e; rfl)))
   apply h5
   refine wp_ret ?_
   try simp only [Exit.then]
   refine ret1 (v := .int .i64 x38) rfl kk ?_
   exact ⟨_, rfl, trivial, Cur.mono x43 (by omega), c45⟩
 rw [q34]
 refine Fq (.bool false) (r_pick (b := false) rfl ek ek) ?_
 apply F.es
 have x6 := Sk s33 x6 (fun e9 => ne10 (Option.some.inj e9).symm)
 have c47 := (SG.fr (B := B) c11 s33 (fun kq e => .inl (by cases e; rfl)))
 have rd48 := rd_sep rd12 s33 hsp
 apply h3
 refine wp_cond_false ek ?_
 apply wp_skip
 apply h2
 refine wk fun K6 h6 => ?_
 refine W.region_sch (row := (some B)) (Sch.of [(0, false), (1, false), (2, false), (3, false), (4, false), (5, false), (6, true), (7, false), (8, false), (9, false), (10, false)]) kk kk (fun _ d _ _ _ h => by cases d <;> exact h) kk (fun w49 e50 s51 => ?_)
 have x52 := Cur.heap x32 e50
 refine Fq (.pointer (some ⟨b2, 1, none⟩)) (r_field (k := 1) rfl ek kk) ?_
 refine Fl (.slice A n c) (sgS (blk_cell (j := 1) x6 kk) (fun e9 => ne10 (Option.some.inj e9).symm)) ?_
 refine Fv (.pointer (some ⟨B, 0, none⟩)) ?_
 refine Fq (.pointer (some ⟨b2, 1, none⟩)) (r_field (k := 1) rfl ek kk) ?_
 refine Fl (.slice A n c) (sgS (blk_cell (j := 1) x6 kk) (fun e9 => ne10 (Option.some.inj e9).symm)) ?_
 refine Fq (.int .i64 (n : Int)) (r_len (A := A) (n := n) (c := c) rfl ek kk) ?_
 refine Fc [.pointer (some ⟨B, 0, none⟩), .int .i64 (n : Int)] (pick_any B N (k + 2) (n : Int) _ x52 (by omega) (by omega)) ?_
 rintro e w56 ⟨x53, rfl, hx54, x58, g57⟩
 have s59 := SG.of_grown s51 g57 (.inl rfl)
 refine ⟨_, rfl, s59, ?_⟩
 apply F.nx
 obtain ⟨x60, hx61⟩ := get_of (zs := ps) (k := x53.toNat) (by have := hlpl; omega)
 obtain ⟨b62, o63, hA64, hb65, hc66, hc67, hc68, hc69⟩ := Rd.elPipe rd48 hx61
 refine Fq (.pointer (some ⟨b62, o63 + x53.toNat * 4, none⟩)) (r_idx (n := n) (c := c) (k := x53.toNat) rfl ek hA64 (evk (z := x53) kk (by omega)) kk (by have := hlpl; omega)) ?_
 refine Fq (.pointer (some ⟨b62, o63 + x53.toNat * 4, none⟩)) (r_field0 rfl ek kk) ?_
 refine Fl (.int .i64 x60.id) (sgS hc66 (hsp (by omega) _ _ hA64)) ?_
 refine Fa (.int .i64 x60.id) ?_
 apply F.es
 have c70 := (SG.fr (B := B) c47 s59 (fun kq e => .inl (by cases e; rfl)))
 apply h6
 refine wp_ret ?_
 try simp only [Exit.then]
 refine ret1 (v := .int .i64 x60.id) rfl kk ?_
 exact ⟨_, rfl, trivial, Cur.mono x58 (by omega), c70⟩
set_option maxRecDepth 100000 in
set_option maxHeartbeats 8000000 in
theorem DrawAddPipe_any (A : Option Addr) (n c : Nat) (zs : List Int) (w : World) (hcode : Rd w 1 A n (bytesV zs)) (hz : ∀ z ∈ zs, 0 ≤ z ∧ z < 256) (hn : n ≤ 4611686018427387904) :
    Calls Tryd.prog 18 #[.slice A n c] w fun e w' => ∃ (m : Int) (A' : Option Addr) (n' c' : Nat) (ps : List Pp) (x : Pp), e = .returned (.tuple #[.agg #[.int .i64 m, .slice A' n' c'], .agg #[.int .i64 x.id, .int .i64 x.fr, .int .i64 x.to, .int .i64 x.sz]]) ∧ (Rd w' 4 A' n' (pipesV ps) ∧ Fm A' n' c') ∧ smD 30 m ps ∧ Below w.heap.size w w' := by
 have hl := rd_bytes_len hcode
 go_enter Tryd.func18, Tryd.ntmps18
 refine F.begin 25 [(0, .slice A n c)] (fun U0 => ?_)
 refine wk fun K1 h1 => ?_
 refine W.region_plain (row := none) [(0, true), (1, true)] kk ?_
 have s1 := SG.self w none
 refine W.sn (fun b => .pointer (some ⟨b, 0, none⟩)) #[.int .i64 0, .slice none 0 0] 24 s1 rfl kk rfl (fun _ => by kernel_rfl) (fun b2 w3 hb4 k5 x6 s7 => ?_)
 apply F.nx
 have lo8 : w.heap.size ≤ b2 := Nl ((Sb (Below.refl _ _) s1 nkk)).size (Nat.le_of_eq hb4)
 refine W.sn (fun b => .pointer (some ⟨b, 0, none⟩)) #[.int .i64 0, .int .i64 0, .int .i64 0, .int .i64 0] 38 s7 rfl kk rfl (fun _ => by kernel_rfl) (fun b9 w10 hb11 k12 x13 s14 => ?_)
 apply F.nx
 have lo15 : w.heap.size ≤ b9 := Nl ((Sb (Below.refl _ _) s7 nkk)).size (Nat.le_of_eq hb11)
 have ne16 : b2 ≠ b9 := Nat.ne_of_lt (Nat.lt_of_lt_of_eq (blk_lt x6) hb11)
 have x6 := (k12.block _ (blk_lt x6)).trans x6
 apply F.es
 have c17 := (Sb (Below.refl _ _) s14 nkk)
 apply h1
 refine wk fun K2 h2 => ?_
 refine W.region_plain (row := none) [(0, false), (1, false), (2, true), (3, false)] kk ?_
 have s18 := SG.self w10 none
 refine Fv (.slice A n c) ?_
 refine Fq (.agg #[.slice A n c, .int .i64 0, .int .u64 0]) (r_build rfl (vs := [(0, .slice A n c)]) kk kk) ?_
 refine W.sn (fun b => .pointer (some ⟨b, 0, none⟩)) #[.slice A n c, .int .i64 0, .int .u64 0] 66 s18 rfl kk rfl (fun _ => by kernel_rfl) (fun b19 w20 hb21 k22 x23 s24 => ?_)
 apply F.nx
 have lo25 : w.heap.size ≤ b19 := Nl ((Sb c17 s18 nkk)).size (Nat.le_of_eq hb21)
 have ne26 : b2 ≠ b19 := Nat.ne_of_lt (Nat.lt_of_lt_of_eq (Nat.lt_of_lt_of_le (blk_lt x6) (s18).size) hb21)
 have ne27 : b9 ≠ b19 := Nat.ne_of_lt (Nat.lt_of_lt_of_eq (Nat.lt_of_lt_of_le (blk_lt x13) (s18).size) hb21)
 have x28 := Cur.new x23 hcode hz hn ((Sb c17 s24 nkk)) lo25
 have hN : w.heap.size ≤ w.heap.size := Nat.le_refl _
 refine Fa (.pointer (some ⟨b19, 0, none⟩)) ?_
 apply F.es
 have x6 := Sk s24 x6 onn
 have x13 := Sk s24 x13 onn
 have c29 := (Sb c17 s24 nkk)
 apply h2
 refine wk fun K3 h3 => ?_
 refine W.region_plain (row := (some b19)) [(0, false), (1, true), (2, true), (3, true)] kk ?_
 have s30 := SG.self w20 (some b19)
 refine Fv (.pointer (some ⟨b19, 0, none⟩)) ?_
 have z38 := ((Sb c29 s30 (fun kq e => by cases e; exact lo25))).size
 have lb44 := (Nat.lt_of_lt_of_le (blk_lt x6) (s30).size)
 have lb45 := (Nat.lt_of_lt_of_le (blk_lt x13) (s30).size)
 have lb46 := (Cur.lt x28)
 refine Fc [.pointer (some ⟨b19, 0, none⟩)] (anyNetwork_any b19 w.heap.size 0 _ x28 (by omega)) ?_
 rintro e w48 ⟨m31, A32, n33, c34, ps35, rfl, ⟨ho36, hsm37⟩, x50, g49⟩
 have s51 := SG.of_grown s30 g49 (.inl rfl)
 refine ⟨_, rfl, s51, ?_⟩
 apply F.nx
 have rd42 := own_rd ho36
 have fm41 := own_fm ho36
 have hl39 := rd_pipes_len rd42
 have fr43 := freshA_of ho36 (Nat.le_refl _)
 have hsm37m := hsm37.1
 have hsm37n := hsm37.2.1
 have sp52 : Sp A32 n33 (some b2) := sp_fresh fr43 lb44
 have sp53 : Sp A32 n33 (some b9) := sp_fresh fr43 lb45
 have sp54 : Sp A32 n33 (some b19) := sp_fresh fr43 lb46
 refine W.sn (fun b => .pointer (some ⟨b, 0, none⟩)) #[.int .i64 0, .slice none 0 0] 24 s51 rfl kk rfl (fun _ => by kernel_rfl) (fun b55 w56 hb57 k58 x59 s60 => ?_)
 apply F.nx
 have lo61 : w.heap.size ≤ b55 := Nl ((Sb c29 s51 (fun kq e => by cases e; exact lo25))).size (Nat.le_of_eq hb57)
 have sp62 : Sp A32 n33 (some b55) := sp_new rd42 (by have := hb57; omega)
 have ne63 : b2 ≠ b55 := Nat.ne_of_lt (Nat.lt_of_lt_of_eq (Nat.lt_of_lt_of_le (blk_lt x6) (s51).size) hb57)
 have ne64 : b9 ≠ b55 := Nat.ne_of_lt (Nat.lt_of_lt_of_eq (Nat.lt_of_lt_of_le (blk_lt x13) (s51).size) hb57)
 have ne65 : b19 ≠ b55 := Nat.ne_of_lt (Nat.lt_of_lt_of_eq (Cur.lt x50) hb57)
 have x50 := Cur.below x50 k58
 have rd66 := Rk rd42 k58
 refine W.ss (v := .agg #[.int .i64 m31, .slice A32 n33 c34]) (j := 0) (news := [.int .i64 m31, .slice A32 n33 c34]) (cs' := #[.int .i64 m31, .slice A32 n33 c34]) s60 rfl kk rfl rfl kk kk x59 kk kk (by simp) kk kk (.inr (Nl (s51).size (Nat.le_of_eq hb57))) (fun w67 g68 x69 s70 => ?_)
 have x50 := Cur.grown x50 g68 (fun e9 => ne65 (Option.some.inj e9)) (fun j e => by cases e; exact Nat.le_trans hN lo61)
 have rd71 := rd_sepG rd66 g68 sp62
 apply F.es
 have x6 := Sk s70 x6 (fun e9 => ne26 (Option.some.inj e9))
 have x13 := Sk s70 x13 (fun e9 => ne27 (Option.some.inj e9))
 have c72 := (Sb c29 s70 (fun kq e => by cases e; exact lo25))
 apply h3
 as_aux_lemma =>
  refine wk fun K4 h4 => ?_
  refine M.region_sch (row := [(some b19), (some b2), (some b9)]) (Sch.app [(0, false), (1, false), (4, false), (5, false), (7, false), (8, false), (10, false)] (.br 2 11 (Sch.app [(3, false)] (.br 6 11 (Sch.app [] (.br 9 11 (Sch.of [(11, true), (12, true), (13, false), (14, true), (15, true)]) (Sch.of [(9, true), (12, true), (13, false), (14, true), (15, true)]))) (Sch.of [(6, true), (9, true), (12, true), (13, false), (14, true), (15, true)]))) (Sch.of [(2, true), (3, false), (6, true), (9, true), (12, true), (13, false), (14, true), (15, true)]))) kk kk (fun _ d _ _ _ h => by cases d <;> exact h) kk (fun w73 e74 s75 => ?_)
  have x76 := Cur.heap x50 e74
  have x77 := (heap_same e74 x6)
  have x78 := (heap_same e74 x13)
  refine Fq (.agg #[.int .i64 m31, .slice A32 n33 c34]) (r_load2 rfl ek kk kk (smS (blk_cell (j := 0) x69 kk) (ne3 (fun e9 => ne65 (Option.some.inj e9).symm) (fun e9 => ne63 (Option.some.inj e9).symm) (fun e9 => ne64 (Option.some.inj e9).symm))) (smS (blk_cell (j := 1) x69 kk) (ne3 (fun e9 => ne65 (Option.some.inj e9).symm) (fun e9 => ne63 (Option.some.inj e9).symm) (fun e9 => ne64 (Option.some.inj e9).symm)))) ?_
  refine Fv (.pointer (some ⟨b19, 0, none⟩)) ?_
  refine Fv (.pointer (some ⟨b19, 0, none⟩)) ?_
  refine Fq (.agg #[.int .i64 m31, .slice A32 n33 c34]) (r_load2 rfl ek kk kk (smS (blk_cell (j := 0) x69 kk) (ne3 (fun e9 => ne65 (Option.some.inj e9).symm) (fun e9 => ne63 (Option.some.inj e9).symm) (fun e9 => ne64 (Option.some.inj e9).symm))) (smS (blk_cell (j := 1) x69 kk) (ne3 (fun e9 => ne65 (Option.some.inj e9).symm) (fun e9 => ne63 (Option.some.inj e9).symm) (fun e9 => ne64 (Option.some.inj e9).symm)))) ?_
  refine Fv (.pointer (some ⟨b19, 0, none⟩)) ?_
  refine Fq (.agg #[.int .i64 m31, .slice A32 n33 c34]) (r_load2 rfl ek kk kk (smS (blk_cell (j := 0) x69 kk) (ne3 (fun e9 => ne65 (Option.some.inj e9).symm) (fun e9 => ne63 (Option.some.inj e9).symm) (fun e9 => ne64 (Option.some.inj e9).symm))) (smS (blk_cell (j := 1) x69 kk) (ne3 (fun e9 => ne65 (Option.some.inj e9).symm) (fun e9 => ne63 (Option.some.inj e9).symm) (fun e9 => ne64 (Option.some.inj e9).symm)))) ?_
  refine Fv (.pointer (some ⟨b19, 0, none⟩)) ?_
  refine W.sbr ?_ ?_
  ·refine Fc [.pointer (some ⟨b19, 0, none⟩), .int .i64 20] (pick_any b19 w.heap.size (0 + 400) 20 _ x76 (by omega) (by omega)) ?_
   rintro e w82 ⟨x79, rfl, hx80, x84, g83⟩
   have s85 := SM.of_grown s75 g83 (.inl (by simp))
   refine ⟨_, rfl, s85, ?_⟩
   apply F.nx
   have x77 := (g83.block _ (blk_lt x77) (fun e9 => ne26 (Option.some.inj e9))).trans x77
   have x78 := (g83.block _ (blk_lt x78) (fun e9 => ne27 (Option.some.inj e9))).trans x78
   refine Fq (.int .i64 (1 + x79)) (r_add (m := 1) (n := x79) (z := 1 + x79) rfl ek ek (rfl) (by omega)) ?_
   refine W.sbr ?_ ?_
   ·refine Fc [.pointer (some ⟨b19, 0, none⟩), .agg #[.int .i64 m31, .slice A32 n33 c34]] (nodeOf_any b19 w.heap.size ((0 + 400) + 2) m31 A32 n33 c34 _ x84 (by omega) (by omega)) ?_
    rintro e w89 ⟨x86, rfl, hx87, x91, g90⟩
    have s92 := SM.of_grown s85 g90 (.inl (by simp))
    refine ⟨_, rfl, s92, ?_⟩
    apply F.nx
    have x77 := (g90.block _ (blk_lt x77) (fun e9 => ne26 (Option.some.inj e9))).trans x77
    have x78 := (g90.block _ (blk_lt x78) (fun e9 => ne27 (Option.some.inj e9))).trans x78
    refine W.sbr ?_ ?_
    ·refine Fc [.pointer (some ⟨b19, 0, none⟩), .agg #[.int .i64 m31, .slice A32 n33 c34]] (nodeOf_any b19 w.heap.size (((0 + 400) + 2) + 6) m31 A32 n33 c34 _ x91 (by omega) (by omega)) ?_
     rintro e w96 ⟨x93, rfl, hx94, x98, g97⟩
     have s99 := SM.of_grown s92 g97 (.inl (by simp))
     refine ⟨_, rfl, s99, ?_⟩
     apply F.nx
     have x77 := (g97.block _ (blk_lt x77) (fun e9 => ne26 (Option.some.inj e9))).trans x77
     have x78 := (g97.block _ (blk_lt x78) (fun e9 => ne27 (Option.some.inj e9))).trans x78
     refine M.sn (fun b => .slice (some ⟨b, 0, none⟩) 5 5) #[.int .i64 1, .int .i64 5, .int .i64 9, .int .i64 0, .int .i64 10] 3 s99 rfl kk rfl (fun _ => by kernel_rfl) (fun b100 w101 hb102 k103 x104 s105 => ?_)
     apply F.nx
     have lo106 : w.heap.size ≤ b100 := Nl ((SM.belowR c72 s99 (in3 (fun kq e => (by cases e; exact lo25)) (fun kq e => (by cases e; exact lo8)) (fun kq e => (by cases e; exact lo15))))).size (Nat.le_of_eq hb102)
     have ne110 : b19 ≠ b100 := Nat.ne_of_lt (Nat.lt_of_lt_of_eq (Cur.lt x98) hb102)
     have x77 := (k103.block _ (blk_lt x77)).trans x77
     have x78 := (k103.block _ (blk_lt x78)).trans x78
     have x98 := Cur.below x98 k103
     refine Fc [.pointer (some ⟨b19, 0, none⟩), .slice (some ⟨b100, 0, none⟩) 5 5] (among_any b19 w.heap.size ((((0 + 400) + 2) + 6) + 6) (some ⟨b100, 0, none⟩) 5 5 [1, 5, 9, 0, 10] _ x98 (by omega) (rd_blk x104 rfl rfl) (sp_ne (by have := ne110; omega)) (by omega)) ?_
     rintro e w116 ⟨x112, rfl, hx113, x118, g117⟩
     have s119 := SM.of_grown s105 g117 (.inl (by simp))
     refine ⟨_, rfl, s119, ?_⟩
     apply F.nx
     have x77 := (g117.block _ (blk_lt x77) (fun e9 => ne26 (Option.some.inj e9))).trans x77
     have x78 := (g117.block _ (blk_lt x78) (fun e9 => ne27 (Option.some.inj e9))).trans x78
     have hb114 := bnd_of (0) 10 hx113 (by decide)
     refine Fq (.agg #[.int .i64 (1 + x79), .int .i64 x86, .int .i64 x93, .int .i64 x112]) (r_build rfl (vs := [(0, .int .i64 (1 + x79)), (1, .int .i64 x86), (2, .int .i64 x93), (3, .int .i64 x112)]) kk kk) ?_
     refine M.ss (v := .agg #[.int .i64 m31, .slice A32 n33 c34]) (j := 0) (news := [.int .i64 m31, .slice A32 n33 c34]) (cs' := #[.int .i64 m31, .slice A32 n33 c34]) s119 rfl kk rfl rfl kk kk x77 kk kk (by simp) kk kk (.inl (by simp)) (fun w120 g121 x122 s123 => ?_)
     have x78 := (g121.block _ (blk_lt x78) (fun e9 => ne16 (Option.some.inj e9).symm)).trans x78
     refine M.ss (v := .agg #[.int .i64 (1 + x79), .int .i64 x86, .int .i64 x93, .int .i64 x112]) (j := 0) (news := [.int .i64 (1 + x79), .int .i64 x86, .int .i64 x93, .int .i64 x112]) (cs' := #[.int .i64 (1 + x79), .int .i64 x86, .int .i64 x93, .int .i64 x112]) s123 rfl kk rfl rfl kk kk x78 kk kk (by simp) kk kk (.inl (by simp)) (fun w124 g125 x126 s127 => ?_)
     have x122 := (g125.block _ (blk_lt x122) (fun e9 => ne16 (Option.some.inj e9))).trans x122
     apply F.es
     have c128 := (SM.belowR c72 s127 (in3 (fun kq e => (by cases e; exact lo25)) (fun kq e => (by cases e; exact lo8)) (fun kq e => (by cases e; exact lo15))))
     have rd129 := rd_sepM rd71 s127 (sp3 sp54 sp52 sp53)
     apply h4
     as_aux_lemma =>
      refine wp_ret ?_
      try simp only [Exit.then]
      refine retCC  rfl kk kk kk x122 kk kk kk x126 ?_
      exact ⟨_, _, _, _, ps35, ⟨1 + x79, x86, x93, x112⟩, rfl, ⟨rd129, fm41⟩, hsm37, c128⟩
    refine M.sn (fun b => .slice (some ⟨b, 0, none⟩) 5 5) #[.int .i64 1, .int .i64 5, .int .i64 9, .int .i64 0, .int .i64 10] 3 s92 rfl kk rfl (fun _ => by kernel_rfl) (fun b130 w131 hb132 k133 x134 s135 => ?_)
    apply F.nx
    have lo136 : w.heap.size ≤ b130 := Nl ((SM.belowR c72 s92 (in3 (fun kq e => (by cases e; exact lo25)) (fun kq e => (by cases e; exact lo8)) (fun kq e => (by cases e; exact lo15))))).size (Nat.le_of_eq hb132)
    have ne140 : b19 ≠ b130 := Nat.ne_of_lt (Nat.lt_of_lt_of_eq (Cur.lt x91) hb132)
    have x77 := (k133.block _ (blk_lt x77)).trans x77
    have x78 := (k133.block _ (blk_lt x78)).trans x78
    have x91 := Cur.below x91 k133
    refine Fc [.pointer (some ⟨b19, 0, none⟩), .agg #[.int .i64 m31, .slice A32 n33 c34]] (nodeOf_any b19 w.heap.size (((0 + 400) + 2) + 6) m31 A32 n33 c34 _ x91 (by omega) (by omega)) ?_
    rintro e w145 ⟨x142, rfl, hx143, x147, g146⟩
    have s148 := SM.of_grown s135 g146 (.inl (by simp))
    refine ⟨_, rfl, s148, ?_⟩
    apply F.nx
    have x77 := (g146.block _ (blk_lt x77) (fun e9 => ne26 (Option.some.inj e9))).trans x77
    have x78 := (g146.block _ (blk_lt x78) (fun e9 => ne27 (Option.some.inj e9))).trans x78
    have x134 := (g146.block _ (blk_lt x134) (fun e9 => ne140 (Option.some.inj e9).symm)).trans x134
    refine Fc [.pointer (some ⟨b19, 0, none⟩), .slice (some ⟨b130, 0, none⟩) 5 5] (among_any b19 w.heap.size ((((0 + 400) + 2) + 6) + 6) (some ⟨b130, 0, none⟩) 5 5 [1, 5, 9, 0, 10] _ x147 (by omega) (rd_blk x134 rfl rfl) (sp_ne (by have := ne140; omega)) (by omega)) ?_
    rintro e w153 ⟨x149, rfl, hx150, x155, g154⟩
    have s156 := SM.of_grown s148 g154 (.inl (by simp))
    refine ⟨_, rfl, s156, ?_⟩
    apply F.nx
    have x77 := (g154.block _ (blk_lt x77) (fun e9 => ne26 (Option.some.inj e9))).trans x77
    have x78 := (g154.block _ (blk_lt x78) (fun e9 => ne27 (Option.some.inj e9))).trans x78
    have hb151 := bnd_of (0) 10 hx150 (by decide)
    refine Fq (.agg #[.int .i64 (1 + x79), .int .i64 x86, .int .i64 x142, .int .i64 x149]) (r_build rfl (vs := [(0, .int .i64 (1 + x79)), (1, .int .i64 x86), (2, .int .i64 x142), (3, .int .i64 x149)]) kk kk) ?_
    refine M.ss (v := .agg #[.int .i64 m31, .slice A32 n33 c34]) (j := 0) (news := [.int .i64 m31, .slice A32 n33 c34]) (cs' := #[.int .i64 m31, .slice A32 n33 c34]) s156 rfl kk rfl rfl kk kk x77 kk kk (by simp) kk kk (.inl (by simp)) (fun w157 g158 x159 s160 => ?_)
    have x78 := (g158.block _ (blk_lt x78) (fun e9 => ne16 (Option.some.inj e9).symm)).trans x78
    refine M.ss (v := .agg #[.int .i64 (1 + x79), .int .i64 x86, .int .i64 x142, .int .i64 x149]) (j := 0) (news := [.int .i64 (1 + x79), .int .i64 x86, .int .i64 x142, .int .i64 x149]) (cs' := #[.int .i64 (1 + x79), .int .i64 x86, .int .i64 x142, .int .i64 x149]) s160 rfl kk rfl rfl kk kk x78 kk kk (by simp) kk kk (.inl (by simp)) (fun w161 g162 x163 s164 => ?_)
    have x159 := (g162.block _ (blk_lt x159) (fun e9 => ne16 (Option.some.inj e9))).trans x159
    apply F.es
    have c165 := (SM.belowR c72 s164 (in3 (fun kq e => (by cases e; exact lo25)) (fun kq e => (by cases e; exact lo8)) (fun kq e => (by cases e; exact lo15))))
    have rd166 := rd_sepM rd71 s164 (sp3 sp54 sp52 sp53)
    apply h4
    refine wp_ret ?_
    try simp only [Exit.then]
    refine retCC  rfl kk kk kk x159 kk kk kk x163 ?_
    exact ⟨_, _, _, _, ps35, ⟨1 + x79, x86, x142, x149⟩, rfl, ⟨rd166, fm41⟩, hsm37, c165⟩
   refine M.sn (fun b => .slice (some ⟨b, 0, none⟩) 5 5) #[.int .i64 1, .int .i64 5, .int .i64 9, .int .i64 0, .int .i64 10] 3 s85 rfl kk rfl (fun _ => by kernel_rfl) (fun b167 w168 hb169 k170 x171 s172 => ?_)
   apply F.nx
   have lo173 : w.heap.size ≤ b167 := Nl ((SM.belowR c72 s85 (in3 (fun kq e => (by cases e; exact lo25)) (fun kq e => (by cases e; exact lo8)) (fun kq e => (by cases e; exact lo15))))).size (Nat.le_of_eq hb169)
   have ne177 : b19 ≠ b167 := Nat.ne_of_lt (Nat.lt_of_lt_of_eq (Cur.lt x84) hb169)
   have x77 := (k170.block _ (blk_lt x77)).trans x77
   have x78 := (k170.block _ (blk_lt x78)).trans x78
   have x84 := Cur.below x84 k170
   refine Fc [.pointer (some ⟨b19, 0, none⟩), .agg #[.int .i64 m31, .slice A32 n33 c34]] (nodeOf_any b19 w.heap.size ((0 + 400) + 2) m31 A32 n33 c34 _ x84 (by omega) (by omega)) ?_
   rintro e w182 ⟨x179, rfl, hx180, x184, g183⟩
   have s185 := SM.of_grown s172 g183 (.inl (by simp))
   refine ⟨_, rfl, s185, ?_⟩
   apply F.nx
   have x77 := (g183.block _ (blk_lt x77) (fun e9 => ne26 (Option.some.inj e9))).trans x77
   have x78 := (g183.block _ (blk_lt x78) (fun e9 => ne27 (Option.some.inj e9))).trans x78
   have x171 := (g183.block _ (blk_lt x171) (fun e9 => ne177 (Option.some.inj e9).symm)).trans x171
   refine Fc [.pointer (some ⟨b19, 0, none⟩), .agg #[.int .i64 m31, .slice A32 n33 c34]] (nodeOf_any b19 w.heap.size (((0 + 400) + 2) + 6) m31 A32 n33 c34 _ x184 (by omega) (by omega)) ?_
   rintro e w189 ⟨x186, rfl, hx187, x191, g190⟩
   have s192 := SM.of_grown s185 g190 (.inl (by simp))
   refine ⟨_, rfl, s192, ?_⟩
   apply F.nx
   have x77 := (g190.block _ (blk_lt x77) (fun e9 => ne26 (Option.some.inj e9))).trans x77
   have x78 := (g190.block _ (blk_lt x78) (fun e9 => ne27 (Option.some.inj e9))).trans x78
   have x171 := (g190.block _ (blk_lt x171) (fun e9 => ne177 (Option.some.inj e9).symm)).trans x171
   refine Fc [.pointer (some ⟨b19, 0, none⟩), .slice (some ⟨b167, 0, none⟩) 5 5] (among_any b19 w.heap.size ((((0 + 400) + 2) + 6) + 6) (some ⟨b167, 0, none⟩) 5 5 [1, 5, 9, 0, 10] _ x191 (by omega) (rd_blk x171 rfl rfl) (sp_ne (by have := ne177; omega)) (by omega)) ?_
   rintro e w197 ⟨x193, rfl, hx194, x199, g198⟩
   have s200 := SM.of_grown s192 g198 (.inl (by simp))
   refine ⟨_, rfl, s200, ?_⟩
   apply F.nx
   have x77 := (g198.block _ (blk_lt x77) (fun e9 => ne26 (Option.some.inj e9))).trans x77
   have x78 := (g198.block _ (blk_lt x78) (fun e9 => ne27 (Option.some.inj e9))).trans x78
   have hb195 := bnd_of (0) 10 hx194 (by decide)
   refine Fq (.agg #[.int .i64 (1 + x79), .int .i64 x179, .int .i64 x186, .int .i64 x193]) (r_build rfl (vs := [(0, .int .i64 (1 + x79)), (1, .int .i64 x179), (2, .int .i64 x186), (3, .int .i64 x193)]) kk kk) ?_
   refine M.ss (v := .agg #[.int .i64 m31, .slice A32 n33 c34]) (j := 0) (news := [.int .i64 m31, .slice A32 n33 c34]) (cs' := #[.int .i64 m31, .slice A32 n33 c34]) s200 rfl kk rfl rfl kk kk x77 kk kk (by simp) kk kk (.inl (by simp)) (fun w201 g202 x203 s204 => ?_)
   have x78 := (g202.block _ (blk_lt x78) (fun e9 => ne16 (Option.some.inj e9).symm)).trans x78
   refine M.ss (v := .agg #[.int .i64 (1 + x79), .int .i64 x179, .int .i64 x186, .int .i64 x193]) (j := 0) (news := [.int .i64 (1 + x79), .int .i64 x179, .int .i64 x186, .int .i64 x193]) (cs' := #[.int .i64 (1 + x79), .int .i64 x179, .int .i64 x186, .int .i64 x193]) s204 rfl kk rfl rfl kk kk x78 kk kk (by simp) kk kk (.inl (by simp)) (fun w205 g206 x207 s208 => ?_)
   have x203 := (g206.block _ (blk_lt x203) (fun e9 => ne16 (Option.some.inj e9))).trans x203
   apply F.es
   have c209 := (SM.belowR c72 s208 (in3 (fun kq e => (by cases e; exact lo25)) (fun kq e => (by cases e; exact lo8)) (fun kq e => (by cases e; exact lo15))))
   have rd210 := rd_sepM rd71 s208 (sp3 sp54 sp52 sp53)
   apply h4
   as_aux_lemma =>
    refine wp_ret ?_
    try simp only [Exit.then]
    refine retCC  rfl kk kk kk x203 kk kk kk x207 ?_
    exact ⟨_, _, _, _, ps35, ⟨1 + x79, x179, x186, x193⟩, rfl, ⟨rd210, fm41⟩, hsm37, c209⟩
  refine M.sn (fun b => .slice (some ⟨b, 0, none⟩) 5 5) #[.int .i64 1, .int .i64 5, .int .i64 9, .int .i64 0, .int .i64 10] 3 s75 rfl kk rfl (fun _ => by kernel_rfl) (fun b211 w212 hb213 k214 x215 s216 => ?_)
  apply F.nx
  have lo217 : w.heap.size ≤ b211 := Nl ((SM.belowR c72 s75 (in3 (fun kq e => (by cases e; exact lo25)) (fun kq e => (by cases e; exact lo8)) (fun kq e => (by cases e; exact lo15))))).size (Nat.le_of_eq hb213)
  have ne221 : b19 ≠ b211 := Nat.ne_of_lt (Nat.lt_of_lt_of_eq (Cur.lt x76) hb213)
  have x77 := (k214.block _ (blk_lt x77)).trans x77
  have x78 := (k214.block _ (blk_lt x78)).trans x78
  have x76 := Cur.below x76 k214
  refine Fc [.pointer (some ⟨b19, 0, none⟩), .int .i64 20] (pick_any b19 w.heap.size (0 + 400) 20 _ x76 (by omega) (by omega)) ?_
  rintro e w226 ⟨x223, rfl, hx224, x228, g227⟩
  have s229 := SM.of_grown s216 g227 (.inl (by simp))
  refine ⟨_, rfl, s229, ?_⟩
  apply F.nx
  have x77 := (g227.block _ (blk_lt x77) (fun e9 => ne26 (Option.some.inj e9))).trans x77
  have x78 := (g227.block _ (blk_lt x78) (fun e9 => ne27 (Option.some.inj e9))).trans x78
  have x215 := (g227.block _ (blk_lt x215) (fun e9 => ne221 (Option.some.inj e9).symm)).trans x215
  refine Fq (.int .i64 (1 + x223)) (r_add (m := 1) (n := x223) (z := 1 + x223) rfl ek ek (rfl) (by omega)) ?_
  refine Fc [.pointer (some ⟨b19, 0, none⟩), .agg #[.int .i64 m31, .slice A32 n33 c34]] (nodeOf_any b19 w.heap.size ((0 + 400) + 2) m31 A32 n33 c34 _ x228 (by omega) (by omega)) ?_
  rintro e w233 ⟨x230, rfl, hx231, x235, g234⟩
  have s236 := SM.of_grown s229 g234 (.inl (by simp))
  refine ⟨_, rfl, s236, ?_⟩
  apply F.nx
  have x77 := (g234.block _ (blk_lt x77) (fun e9 => ne26 (Option.some.inj e9))).trans x77
  have x78 := (g234.block _ (blk_lt x78) (fun e9 => ne27 (Option.some.inj e9))).trans x78
  have x215 := (g234.block _ (blk_lt x215) (fun e9 => ne221 (Option.some.inj e9).symm)).trans x215
  refine Fc [.pointer (some ⟨b19, 0, none⟩), .agg #[.int .i64 m31, .slice A32 n33 c34]] (nodeOf_any b19 w.heap.size (((0 + 400) + 2) + 6) m31 A32 n33 c34 _ x235 (by omega) (by omega)) ?_
  rintro e w240 ⟨x237, rfl, hx238, x242, g241⟩
  have s243 := SM.of_grown s236 g241 (.inl (by simp))
  refine ⟨_, rfl, s243, ?_⟩
  apply F.nx
  have x77 := (g241.block _ (blk_lt x77) (fun e9 => ne26 (Option.some.inj e9))).trans x77
  have x78 := (g241.block _ (blk_lt x78) (fun e9 => ne27 (Option.some.inj e9))).trans x78
  have x215 := (g241.block _ (blk_lt x215) (fun e9 => ne221 (Option.some.inj e9).symm)).trans x215
  refine Fc [.pointer (some ⟨b19, 0, none⟩), .slice (some ⟨b211, 0, none⟩) 5 5] (among_any b19 w.heap.size ((((0 + 400) + 2) + 6) + 6) (some ⟨b211, 0, none⟩) 5 5 [1, 5, 9, 0, 10] _ x242 (by omega) (rd_blk x215 rfl rfl) (sp_ne (by have := ne221; omega)) (by omega)) ?_
  rintro e w248 ⟨x244, rfl, hx245, x250, g249⟩
  have s251 := SM.of_grown s243 g249 (.inl (by simp))
  refine ⟨_, rfl, s251, ?_⟩
  apply F.nx
  have x77 := (g249.block _ (blk_lt x77) (fun e9 => ne26 (Option.some.inj e9))).trans x77
  have x78 := (g249.block _ (blk_lt x78) (fun e9 => ne27 (Option.some.inj e9))).trans x78
  have hb246 := bnd_of (0) 10 hx245 (by decide)
  refine Fq (.agg #[.int .i64 (1 + x223), .int .i64 x230, .int .i64 x237, .int .i64 x244]) (r_build rfl (vs := [(0, .int .i64 (1 + x223)), (1, .int .i64 x230), (2, .int .i64 x237), (3, .int .i64 x244)]) kk kk) ?_
  refine M.ss (v := .agg #[.int .i64 m31, .slice A32 n33 c34]) (j := 0) (news := [.int .i64 m31, .slice A32 n33 c34]) (cs' := #[.int .i64 m31, .slice A32 n33 c34]) s251 rfl kk rfl rfl kk kk x77 kk kk (by simp) kk kk (.inl (by simp)) (fun w252 g253 x254 s255 => ?_)
  have x78 := (g253.block _ (blk_lt x78) (fun e9 => ne16 (Option.some.inj e9).symm)).trans x78
  refine M.ss (v := .agg #[.int .i64 (1 + x223), .int .i64 x230, .int .i64 x237, .int .i64 x244]) (j := 0) (news := [.int .i64 (1 + x223), .int .i64 x230, .int .i64 x237, .int .i64 x244]) (cs' := #[.int .i64 (1 + x223), .int .i64 x230, .int .i64 x237, .int .i64 x244]) s255 rfl kk rfl rfl kk kk x78 kk kk (by simp) kk kk (.inl (by simp)) (fun w256 g257 x258 s259 => ?_)
  have x254 := (g257.block _ (blk_lt x254) (fun e9 => ne16 (Option.some.inj e9))).trans x254
  apply F.es
  have c260 := (SM.belowR c72 s259 (in3 (fun kq e => (by cases e; exact lo25)) (fun kq e => (by cases e; exact lo8)) (fun kq e => (by cases e; exact lo15))))
  have rd261 := rd_sepM rd71 s259 (sp3 sp54 sp52 sp53)
  apply h4
  as_aux_lemma =>
   refine wp_ret ?_
   try simp only [Exit.then]
   refine retCC  rfl kk kk kk x254 kk kk kk x258 ?_
   exact ⟨_, _, _, _, ps35, ⟨1 + x223, x230, x237, x244⟩, rfl, ⟨rd261, fm41⟩, hsm37, c260⟩
set_option maxRecDepth 100000 in
set_option maxHeartbeats 8000000 in
theorem DrawRemovePipe_any (A : Option Addr) (n c : Nat) (zs : List Int) (w : World) (hcode : Rd w 1 A n (bytesV zs)) (hz : ∀ z ∈ zs, 0 ≤ z ∧ z < 256) (hn : n ≤ 4611686018427387904) :
    Calls Tryd.prog 24 #[.slice A n c] w fun e w' => ∃ (m : Int) (A' : Option Addr) (n' c' : Nat) (ps : List Pp) (x : Int), e = .returned (.tuple #[.agg #[.int .i64 m, .slice A' n' c'], .int .i64 x]) ∧ (Rd w' 4 A' n' (pipesV ps) ∧ Fm A' n' c') ∧ smD 30 m ps ∧ Below w.heap.size w w' := by
 have hl := rd_bytes_len hcode
 go_enter Tryd.func24, Tryd.ntmps24
 refine F.begin 15 [(0, .slice A n c)] (fun U0 => ?_)
 refine wk fun K1 h1 => ?_
 refine W.region_plain (row := none) [(0, true), (1, false)] kk ?_
 have s1 := SG.self w none
 refine W.sn (fun b => .pointer (some ⟨b, 0, none⟩)) #[.int .i64 0, .slice none 0 0] 24 s1 rfl kk rfl (fun _ => by kernel_rfl) (fun b2 w3 hb4 k5 x6 s7 => ?_)
 apply F.nx
 have lo8 : w.heap.size ≤ b2 := Nl ((Sb (Below.refl _ _) s1 nkk)).size (Nat.le_of_eq hb4)
 refine Fa (.int .i64 0) ?_
 apply F.es
 have c9 := (Sb (Below.refl _ _) s7 nkk)
 apply h1
 refine wk fun K2 h2 => ?_
 refine W.region_plain (row := none) [(0, false), (1, false), (2, true), (3, false)] kk ?_
 have s10 := SG.self w3 none
 refine Fv (.slice A n c) ?_
 refine Fq (.agg #[.slice A n c, .int .i64 0, .int .u64 0]) (r_build rfl (vs := [(0, .slice A n c)]) kk kk) ?_
 refine W.sn (fun b => .pointer (some ⟨b, 0, none⟩)) #[.slice A n c, .int .i64 0, .int .u64 0] 66 s10 rfl kk rfl (fun _ => by kernel_rfl) (fun b11 w12 hb13 k14 x15 s16 => ?_)
 apply F.nx
 have lo17 : w.heap.size ≤ b11 := Nl ((Sb c9 s10 nkk)).size (Nat.le_of_eq hb13)
 have ne18 : b2 ≠ b11 := Nat.ne_of_lt (Nat.lt_of_lt_of_eq (Nat.lt_of_lt_of_le (blk_lt x6) (s10).size) hb13)
 have x19 := Cur.new x15 hcode hz hn ((Sb c9 s16 nkk)) lo17
 have hN : w.heap.size ≤ w.heap.size := Nat.le_refl _
 refine Fa (.pointer (some ⟨b11, 0, none⟩)) ?_
 apply F.es
 have x6 := Sk s16 x6 onn
 have c20 := (Sb c9 s16 nkk)
 apply h2
 refine wk fun K3 h3 => ?_
 refine W.region_plain (row := (some b11)) [(0, false), (1, true), (2, true), (3, true)] kk ?_
 have s21 := SG.self w12 (some b11)
 refine Fv (.pointer (some ⟨b11, 0, none⟩)) ?_
 have z29 := ((Sb c20 s21 (fun kq e => by cases e; exact lo17))).size
 have lb35 := (Nat.lt_of_lt_of_le (blk_lt x6) (s21).size)
 have lb36 := (Cur.lt x19)
 refine Fc [.pointer (some ⟨b11, 0, none⟩)] (anyNetwork_any b11 w.heap.size 0 _ x19 (by omega)) ?_
 rintro e w38 ⟨m22, A23, n24, c25, ps26, rfl, ⟨ho27, hsm28⟩, x40, g39⟩
 have s41 := SG.of_grown s21 g39 (.inl rfl)
 refine ⟨_, rfl, s41, ?_⟩
 apply F.nx
 have rd33 := own_rd ho27
 have fm32 := own_fm ho27
 have hl30 := rd_pipes_len rd33
 have fr34 := freshA_of ho27 (Nat.le_refl _)
 have hsm28m := hsm28.1
 have hsm28n := hsm28.2.1
 have sp42 : Sp A23 n24 (some b2) := sp_fresh fr34 lb35
 have sp43 : Sp A23 n24 (some b11) := sp_fresh fr34 lb36
 refine W.sn (fun b => .pointer (some ⟨b, 0, none⟩)) #[.int .i64 0, .slice none 0 0] 24 s41 rfl kk rfl (fun _ => by kernel_rfl) (fun b44 w45 hb46 k47 x48 s49 => ?_)
 apply F.nx
 have lo50 : w.heap.size ≤ b44 := Nl ((Sb c20 s41 (fun kq e => by cases e; exact lo17))).size (Nat.le_of_eq hb46)
 have sp51 : Sp A23 n24 (some b44) := sp_new rd33 (by have := hb46; omega)
 have ne52 : b2 ≠ b44 := Nat.ne_of_lt (Nat.lt_of_lt_of_eq (Nat.lt_of_lt_of_le (blk_lt x6) (s41).size) hb46)
 have ne53 : b11 ≠ b44 := Nat.ne_of_lt (Nat.lt_of_lt_of_eq (Cur.lt x40) hb46)
 have x40 := Cur.below x40 k47
 have rd54 := Rk rd33 k47
 refine W.ss (v := .agg #[.int .i64 m22, .slice A23 n24 c25]) (j := 0) (news := [.int .i64 m22, .slice A23 n24 c25]) (cs' := #[.int .i64 m22, .slice A23 n24 c25]) s49 rfl kk rfl rfl kk kk x48 kk kk (by simp) kk kk (.inr (Nl (s41).size (Nat.le_of_eq hb46))) (fun w55 g56 x57 s58 => ?_)
 have x40 := Cur.grown x40 g56 (fun e9 => ne53 (Option.some.inj e9)) (fun j e => by cases e; exact Nat.le_trans hN lo50)
 have rd59 := rd_sepG rd54 g56 sp51
 apply F.es
 have x6 := Sk s58 x6 (fun e9 => ne18 (Option.some.inj e9))
 have c60 := (Sb c20 s58 (fun kq e => by cases e; exact lo17))
 apply h3
 as_aux_lemma =>
  refine wk fun K4 h4 => ?_
  refine M.region_sch (row := [(some b11), (some b2)]) (Sch.of [(0, false), (1, false), (2, false), (3, true), (4, true), (5, false)]) kk kk (fun _ d _ _ _ h => by cases d <;> exact h) kk (fun w61 e62 s63 => ?_)
  have x64 := Cur.heap x40 e62
  have x65 := (heap_same e62 x6)
  refine Fq (.agg #[.int .i64 m22, .slice A23 n24 c25]) (r_load2 rfl ek kk kk (smS (blk_cell (j := 0) x57 kk) (ne2 (fun e9 => ne53 (Option.some.inj e9).symm) (fun e9 => ne52 (Option.some.inj e9).symm))) (smS (blk_cell (j := 1) x57 kk) (ne2 (fun e9 => ne53 (Option.some.inj e9).symm) (fun e9 => ne52 (Option.some.inj e9).symm)))) ?_
  refine Fv (.pointer (some ⟨b11, 0, none⟩)) ?_
  refine Fq (.agg #[.int .i64 m22, .slice A23 n24 c25]) (r_load2 rfl ek kk kk (smS (blk_cell (j := 0) x57 kk) (ne2 (fun e9 => ne53 (Option.some.inj e9).symm) (fun e9 => ne52 (Option.some.inj e9).symm))) (smS (blk_cell (j := 1) x57 kk) (ne2 (fun e9 => ne53 (Option.some.inj e9).symm) (fun e9 => ne52 (Option.some.inj e9).symm)))) ?_
  refine Fc [.pointer (some ⟨b11, 0, none⟩), .agg #[.int .i64 m22, .slice A23 n24 c25]] (pipeOf_any b11 w.heap.size (0 + 400) m22 A23 n24 c25 ps26 _ x64 (by omega) (rd_sepM rd59 s63 (sp2 sp43 sp42)) sp43 (by omega) (by omega)) ?_
  rintro e w69 ⟨x66, rfl, hx67, x71, g70⟩
  have s72 := SM.of_grown s63 g70 (.inl (by simp))
  refine ⟨_, rfl, s72, ?_⟩
  apply F.nx
  have x65 := (g70.block _ (blk_lt x65) (fun e9 => ne18 (Option.some.inj e9))).trans x65
  refine M.ss (v := .agg #[.int .i64 m22, .slice A23 n24 c25]) (j := 0) (news := [.int .i64 m22, .slice A23 n24 c25]) (cs' := #[.int .i64 m22, .slice A23 n24 c25]) s72 rfl kk rfl rfl kk kk x65 kk kk (by simp) kk kk (.inl (by simp)) (fun w73 g74 x75 s76 => ?_)
  refine Fa (.int .i64 x66) ?_
  apply F.es
  have c77 := (SM.belowR c60 s76 (in2 (fun kq e => (by cases e; exact lo17)) (fun kq e => (by cases e; exact lo8))))
  have rd78 := rd_sepM rd59 s76 (sp2 sp43 sp42)
  apply h4
  refine wp_ret ?_
  try simp only [Exit.then]
  refine retCT (x := .int .i64 x66) rfl kk kk kk kk x75 ?_
  exact ⟨_, _, _, _, ps26, _, rfl, ⟨rd78, fm32⟩, hsm28, c77⟩
set_option maxRecDepth 100000 in
set_option maxHeartbeats 8000000 in
theorem DrawParseNetwork_any (A : Option Addr) (n c : Nat) (zs : List Int) (w : World) (hcode : Rd w 1 A n (bytesV zs)) (hz : ∀ z ∈ zs, 0 ≤ z ∧ z < 256) (hn : n ≤ 4611686018427387904) :
    Calls Tryd.prog 17 #[.slice A n c] w fun e w' => ∃ s : ByteArray, e = .returned (.string s) ∧ s.size ≤ 20000 ∧ Below w.heap.size w w' := by
 have hl := rd_bytes_len hcode
 go_enter Tryd.func17, Tryd.ntmps17
 refine F.begin 17 [(0, .slice A n c)] (fun U0 => ?_)
 refine wk fun K1 h1 => ?_
 refine Rq 1 ?_
 refine Fa (.string (⟨#[]⟩ : ByteArray)) ?_
 apply F.es
 apply h1
 refine wk fun K2 h2 => ?_
 refine W.region_plain (row := none) [(0, false), (1, false), (2, true), (3, false)] kk ?_
 have s1 := SG.self w none
 refine Fv (.slice A n c) ?_
 refine Fq (.agg #[.slice A n c, .int .i64 0, .int .u64 0]) (r_build rfl (vs := [(0, .slice A n c)]) kk kk) ?_
 refine W.sn (fun b => .pointer (some ⟨b, 0, none⟩)) #[.slice A n c, .int .i64 0, .int .u64 0] 66 s1 rfl kk rfl (fun _ => by kernel_rfl) (fun b2 w3 hb4 k5 x6 s7 => ?_)
 apply F.nx
 have lo8 : w.heap.size ≤ b2 := Nl ((Sb (Below.refl _ _) s1 nkk)).size (Nat.le_of_eq hb4)
 have x9 := Cur.new x6 hcode hz hn ((Sb (Below.refl _ _) s7 nkk)) lo8
 have hN : w.heap.size ≤ w.heap.size := Nat.le_refl _
 refine Fa (.pointer (some ⟨b2, 0, none⟩)) ?_
 apply F.es
 have c10 := (Sb (Below.refl _ _) s7 nkk)
 apply h2
 refine wk fun K3 h3 => ?_
 refine W.region_plain (row := (some b2)) [(0, false), (1, true), (2, true), (3, false)] kk ?_
 have s11 := SG.self w3 (some b2)
 refine Fv (.pointer (some ⟨b2, 0, none⟩)) ?_
 have z19 := ((Sb c10 s11 (fun kq e => by cases e; exact lo8))).size
 have lb25 := (Cur.lt x9)
 refine Fc [.pointer (some ⟨b2, 0, none⟩)] (network_any b2 w.heap.size 0 _ x9 (by omega)) ?_
 rintro e w27 ⟨m12, A13, n14, c15, ps16, rfl, ⟨ho17, hsm18⟩, x29, g28⟩
 have s30 := SG.of_grown s11 g28 (.inl rfl)
 refine ⟨_, rfl, s30, ?_⟩
 apply F.nx
 have rd23 := own_rd ho17
 have hl20 := rd_pipes_len rd23
 have hsm18m := hsm18.1
 have hsm18n := hsm18.2.1
 have hsq := smD_small hsm18 (by omega)
 have hts := ntext_size hsq
 refine Fc [.agg #[.int .i64 m12, .slice A13 n14 c15]] (l2Text_any m12 A13 n14 c15 ps16 _ rd23 hsq) ?_
 rintro e w33 ⟨rfl, b32⟩
 have s34 := SG.of_below s30 b32
 refine ⟨_, rfl, s34, ?_⟩
 apply F.nx
 have x29 := Cur.below x29 b32
 refine Fa (.string (textN m12 ps16)) ?_
 apply F.es
 have c36 := (Sb c10 s34 (fun kq e => by cases e; exact lo8))
 apply h3
 refine wk fun K4 h4 => ?_
 refine wk fun K5 h5 => ?_
 refine W.region_plain (row := (some b2)) [(0, false), (1, true)] kk ?_
 have s37 := SG.self w33 (some b2)
 refine Fv (.pointer (some ⟨b2, 0, none⟩)) ?_
 refine Fc [.pointer (some ⟨b2, 0, none⟩), .int .i64 4] (one_any b2 w.heap.size (0 + 300) 4 _ x29 (by omega) (by omega)) ?_
 rintro e w41 ⟨b38, rfl, _, x43, g42⟩
 have s44 := SG.of_grown s37 g42 (.inl rfl)
 refine ⟨_, rfl, s44, ?_⟩
 apply F.nx
 rcases Bool.eq_false_or_eq_true b38 with q45 | q45
 ·rw [q45]
  apply F.es
  have c46 := (Sb c36 s44 (fun kq e => by cases e; exact lo8))
  apply h5
  as_aux_lemma =>
   refine wp_cond_true ek ?_
   refine W.region_plain (row := (some b2)) [(0, false), (1, false), (2, true), (3, false)] kk ?_
   have s48 := SG.self w41 (some b2)
   refine Fv (.pointer (some ⟨b2, 0, none⟩)) ?_
   refine Fv (.string (textN m12 ps16)) ?_
   refine Fc [.pointer (some ⟨b2, 0, none⟩), .string (textN m12 ps16), .string (⟨#[49, 32, 45, 58, 10, 115]⟩ : ByteArray)] (spoilt_any b2 w.heap.size ((0 + 300) + 2) (textN m12 ps16) (⟨#[49, 32, 45, 58, 10, 115]⟩ : ByteArray) _ x43 (by omega) (by omega) (by decide)) ?_
   rintro e w52 ⟨s49, rfl, hx50, x54, g53⟩
   have s55 := SG.of_grown s48 g53 (.inl rfl)
   refine ⟨_, rfl, s55, ?_⟩
   apply F.nx
   refine Fa (.string s49) ?_
   apply F.es
   have c56 := (Sb c46 s55 (fun kq e => by cases e; exact lo8))
   apply h4
   refine wk fun K6 h6 => ?_
   refine Rq 2 ?_
   refine Fv (.string s49) ?_
   refine Fa (.string s49) ?_
   apply F.es
   apply h6
   refine wp_ret ?_
   try simp only [Exit.then]
   refine ret1 (v := .string s49) rfl kk ?_
   exact ⟨_, rfl, by omega, c56⟩
 rw [q45]
 apply F.es
 have c58 := (Sb c36 s44 (fun kq e => by cases e; exact lo8))
 apply h5
 refine wp_cond_false ek ?_
 apply wp_skip
 apply h4
 refine wk fun K7 h7 => ?_
 refine Rq 2 ?_
 refine Fv (.string (textN m12 ps16)) ?_
 refine Fa (.string (textN m12 ps16)) ?_
 apply F.es
 apply h7
 refine wp_ret ?_
 try simp only [Exit.then]
 refine ret1 (v := .string (textN m12 ps16)) rfl kk ?_
 exact ⟨_, rfl, by omega, c58⟩
end Go.Proofs.YtdlcldaogcbnlaaDoor
namespace Go.Proofs.YtdlcldaogcbnlaaDoor
open Go.RowKit
set_option linter.unusedVariables false
set_option linter.unusedSimpArgs false
theorem split_part {s x : ByteArray} {c i : Nat} (hc : c < 256) (h : (splitL s c)[i]? = some x) : x.size ≤ s.size := by
  rw [splitL_splitC s hc, List.getElem?_map] at h
  cases e : (splitC (UInt8.ofNat c) s.data.toList)[i]? with
  | none => rw [e] at h; cases h
  | some l =>
    rw [e] at h
    obtain rfl := Option.some.inj h
    have hm := List.mem_of_getElem? e
    have key : ∀ (r : List UInt8) (l : List UInt8), l ∈ splitC (UInt8.ofNat c) r → l.length ≤ r.length := by
      intro r
      induction r with
      | nil => intro l h; simp [splitC] at h; rw [h]; exact Nat.le_refl _
      | cons b r ih =>
        intro l h
        unfold splitC at h
        split at h
        · rcases List.mem_cons.1 h with rfl | h
          · simp
          · have := ih l h; simp only [List.length_cons]; omega
        · cases hs : splitC (UInt8.ofNat c) r with
          | nil => exact absurd hs (splitC_ne _ _)
          | cons y t =>
            rw [hs] at h
            have h' : l = b :: y ∨ l ∈ t := by simpa using h
            rcases h' with rfl | h'
            · have := ih y (by rw [hs]; exact List.mem_cons_self ..); simp only [List.length_cons]; omega
            · have := ih l (by rw [hs]; exact List.mem_cons_of_mem _ h'); simp only [List.length_cons]; omega
    have := key _ _ hm
    show l.toArray.size ≤ s.size
    rw [List.size_toArray]
    exact this
theorem ext_le (s : ByteArray) (a b : Nat) : (s.extract a b).size ≤ s.size := by
  show (s.extract a b).data.size ≤ s.data.size
  rw [← Array.length_toList, Lib.extract_data, List.length_take, List.length_drop, Array.length_toList]
  omega
set_option maxRecDepth 100000 in
set_option maxHeartbeats 1000000 in
theorem l2Line_any (s : ByteArray) (w : World) (hs : s.size ≤ 1048576) :
    Calls Tryd.prog 79 #[.string s] w fun e w' => ∃ (p : Pp) (b : Bool), e = .returned (.tuple #[.agg #[.int .i64 p.id, .int .i64 p.fr, .int .i64 p.to, .int .i64 p.sz], .bool b]) ∧ lineRel s p b ∧ Below w.heap.size w w' := by
 go_enter Tryd.func79, Tryd.ntmps79
 refine F.begin 84 [(0, .string s)] (fun U0 => ?_)
 refine wk fun K1 h1 => ?_
 refine W.region_plain (row := none) [(0, true), (1, false)] kk ?_
 have s1 := SG.self w none
 refine W.sn (fun b => .pointer (some ⟨b, 0, none⟩)) #[.int .i64 0, .int .i64 0, .int .i64 0, .int .i64 0] 38 s1 rfl kk rfl (fun _ => by kernel_rfl) (fun b2 w3 hb4 k5 x6 s7 => ?_)
 apply F.nx
 have lo8 : w.heap.size ≤ b2 := Nl ((Sb (Below.refl _ _) s1 nkk)).size (Nat.le_of_eq hb4)
 refine Fa (.bool false) ?_
 apply F.es
 have c9 := (Sb (Below.refl _ _) s7 nkk)
 apply h1
 refine wk fun K2 h2 => ?_
 refine W.region_plain (row := none) [(0, false), (1, true), (2, false)] kk ?_
 have s10 := SG.self w3 none
 refine Fv (.string s) ?_
 have lb20 := (Nat.lt_of_lt_of_le (blk_lt x6) (s10).size)
 have z16 := ((Sb c9 s10 nkk)).size
 refine Fc [.string s, .int .u8 32] (l1Split_any s 32 _ (by omega)) ?_
 rintro e w22 ⟨A11, n12, c13, rfl, ho14, b21⟩
 have s23 := SG.of_below s10 b21
 refine ⟨_, rfl, s23, ?_⟩
 apply F.nx
 have ho15 := own_base (base' := w.heap.size) ho14 z16
 have hl18 := rd_strs_len (own_rd ho15)
 have hl18p := splitL_pos s 32
 have hl18q := splitL_len s 32
 obtain ⟨g19, rfl, _, _⟩ := own_addr ho15 (by omega)
 refine Fa (.slice (some ⟨g19, 0, none⟩) n12 c13) ?_
 apply F.es
 have x6 := Sk s23 x6 onn
 have c25 := (Sb c9 s23 nkk)
 apply h2
 refine wk fun K3 h3 => ?_
 refine wk fun K4 h4 => ?_
 refine Rq 10 ?_
 refine Fv (.slice (some ⟨g19, 0, none⟩) n12 c13) ?_
 refine Fq (.int .i64 (n12 : Int)) (r_len (A := (some ⟨g19, 0, none⟩)) (n := n12) (c := c13) rfl ek kk) ?_
 by_cases q26 : ((n12 : Int) : Int) ≠ (4 : Int)
 ·refine Fq (.bool true) (r_neq (m := (n12 : Int)) (n := 4) rfl ek ek (dt q26)) ?_
  refine Fv (.bool true) ?_
  refine Fs rfl ?_
  refine Fs rfl ?_
  refine Fs rfl ?_
  refine Fs rfl ?_
  refine Fs rfl ?_
  refine Fq (.bool true) (r_pick (b := true) rfl ek ek) ?_
  apply F.es
  apply h4
  refine wp_cond_true ek ?_
  refine wk fun K5 h5 => ?_
  refine W.region_plain (row := (some b2)) [(0, false), (1, true), (2, false)] kk ?_
  have s27 := SG.self w22 (some b2)
  refine Fq (.agg #[.int .i64 0, .int .i64 0, .int .i64 0, .int .i64 0]) (r_build rfl (vs := []) kk kk) ?_
  refine W.ss (v := .agg #[.int .i64 0, .int .i64 0, .int .i64 0, .int .i64 0]) (j := 0) (news := [.int .i64 0, .int .i64 0, .int .i64 0, .int .i64 0]) (cs' := #[.int .i64 0, .int .i64 0, .int .i64 0, .int .i64 0]) s27 rfl kk rfl rfl kk kk x6 kk kk (by simp) kk kk (.inl rfl) (fun w28 g29 x30 s31 => ?_)
  refine Fa (.bool false) ?_
  apply F.es
  have c33 := (Sb c25 s31 (fun kq e => by cases e; exact lo8))
  apply h5
  as_aux_lemma =>
   refine wp_ret ?_
   try simp only [Exit.then]
   refine retCT (x := .bool false) rfl kk kk kk kk x30 ?_
   exact ⟨⟨0, 0, 0, 0⟩, _, rfl, fun q hq e => absurd (show False from by have h9 := line_len e; omega) id, c33⟩
 refine Fq (.bool false) (r_neq (m := (n12 : Int)) (n := 4) rfl ek ek (df q26)) ?_
 refine Fv (.bool false) ?_
 refine Fv (.slice (some ⟨g19, 0, none⟩) n12 c13) ?_
 refine Fq (.pointer (some ⟨g19, 0, none⟩)) (r_idx0 (n := n12) (c := c13) (k := 0) rfl ek kk kk (by omega)) ?_
 obtain ⟨x34, hx35⟩ := get_of (zs := (splitL s 32)) (k := 0) (by have h9 := own_len ho15; rw [strs_len] at h9; omega)
 have hx34 := split_part (c := 32) (by omega) hx35
 refine Fl (.string x34) (eqS (own_atS ho15 hx35)) ?_
 refine Fq (.int .i64 ((x34.size : Nat) : Int)) (r_lenS (s := x34) rfl ek kk) ?_
 by_cases q36 : (((x34.size : Nat) : Int) : Int) < (2 : Int)
 ·refine Fq (.bool true) (r_lss (m := ((x34.size : Nat) : Int)) (n := 2) rfl ek ek (dt q36)) ?_
  refine Fq (.bool true) (r_pick (b := false) rfl ek ek) ?_
  apply F.es
  apply h4
  refine wp_cond_true ek ?_
  refine wk fun K6 h6 => ?_
  refine W.region_plain (row := (some b2)) [(0, false), (1, true), (2, false)] kk ?_
  have s37 := SG.self w22 (some b2)
  refine Fq (.agg #[.int .i64 0, .int .i64 0, .int .i64 0, .int .i64 0]) (r_build rfl (vs := []) kk kk) ?_
  refine W.ss (v := .agg #[.int .i64 0, .int .i64 0, .int .i64 0, .int .i64 0]) (j := 0) (news := [.int .i64 0, .int .i64 0, .int .i64 0, .int .i64 0]) (cs' := #[.int .i64 0, .int .i64 0, .int .i64 0, .int .i64 0]) s37 rfl kk rfl rfl kk kk x6 kk kk (by simp) kk kk (.inl rfl) (fun w38 g39 x40 s41 => ?_)
  refine Fa (.bool false) ?_
  apply F.es
  have c43 := (Sb c25 s41 (fun kq e => by cases e; exact lo8))
  apply h6
  refine wp_ret ?_
  try simp only [Exit.then]
  refine retCT (x := .bool false) rfl kk kk kk kk x40 ?_
  exact ⟨⟨0, 0, 0, 0⟩, _, rfl, fun q hq e => absurd (show False from by have h9 := line_len e; have h8 := line_first hx35 e; omega) id, c43⟩
 refine Fq (.bool false) (r_lss (m := ((x34.size : Nat) : Int)) (n := 2) rfl ek ek (df q36)) ?_
 refine Fq (.bool false) (r_pick (b := false) rfl ek ek) ?_
 apply F.es
 apply h4
 refine wp_cond_false ek ?_
 apply wp_skip
 apply h3
 refine wk fun K7 h7 => ?_
 refine W.region_plain (row := none) [(0, false), (1, false), (2, false), (3, true), (4, false)] kk ?_
 have s44 := SG.self w22 none
 refine Fv (.slice (some ⟨g19, 0, none⟩) n12 c13) ?_
 refine Fq (.pointer (some ⟨g19, 1, none⟩)) (r_idx0 (n := n12) (c := c13) (k := 1) rfl ek kk kk (by omega)) ?_
 obtain ⟨x45, hx46⟩ := get_of (zs := (splitL s 32)) (k := 1) (by have h9 := own_len ho15; rw [strs_len] at h9; omega)
 have hx45 := split_part (c := 32) (by omega) hx46
 refine Fl (.string x45) (sgS (own_atS ho15 hx46) (by simp)) ?_
 have lb56 := (Nat.lt_of_lt_of_le (blk_lt x6) (s44).size)
 have z52 := ((Sb c25 s44 nkk)).size
 refine Fc [.string x45, .int .u8 45] (l1Split_any x45 45 _ (by omega)) ?_
 rintro e w58 ⟨A47, n48, c49, rfl, ho50, b57⟩
 have s59 := SG.of_below s44 b57
 refine ⟨_, rfl, s59, ?_⟩
 apply F.nx
 have ho60 := own_kept ho15 b57
 have ho51 := own_base (base' := w.heap.size) ho50 z52
 have hl54 := rd_strs_len (own_rd ho51)
 have hl54p := splitL_pos x45 45
 have hl54q := splitL_len x45 45
 obtain ⟨g55, rfl, _, _⟩ := own_addr ho51 (by omega)
 refine Fa (.slice (some ⟨g55, 0, none⟩) n48 c49) ?_
 apply F.es
 have x6 := Sk s59 x6 onn
 have c63 := (Sb c25 s59 nkk)
 apply h7
 as_aux_lemma =>
  refine wk fun K8 h8 => ?_
  refine wk fun K9 h9 => ?_
  refine Rq 3 ?_
  refine Fv (.slice (some ⟨g55, 0, none⟩) n48 c49) ?_
  refine Fq (.int .i64 (n48 : Int)) (r_len (A := (some ⟨g55, 0, none⟩)) (n := n48) (c := c49) rfl ek kk) ?_
  by_cases q64 : ((n48 : Int) : Int) ≠ (2 : Int)
  ·refine Fq (.bool true) (r_neq (m := (n48 : Int)) (n := 2) rfl ek ek (dt q64)) ?_
   apply F.es
   apply h9
   refine wp_cond_true ek ?_
   refine wk fun K10 h10 => ?_
   refine W.region_plain (row := (some b2)) [(0, false), (1, true), (2, false)] kk ?_
   have s65 := SG.self w58 (some b2)
   refine Fq (.agg #[.int .i64 0, .int .i64 0, .int .i64 0, .int .i64 0]) (r_build rfl (vs := []) kk kk) ?_
   refine W.ss (v := .agg #[.int .i64 0, .int .i64 0, .int .i64 0, .int .i64 0]) (j := 0) (news := [.int .i64 0, .int .i64 0, .int .i64 0, .int .i64 0]) (cs' := #[.int .i64 0, .int .i64 0, .int .i64 0, .int .i64 0]) s65 rfl kk rfl rfl kk kk x6 kk kk (by simp) kk kk (.inl rfl) (fun w66 g67 x68 s69 => ?_)
   refine Fa (.bool false) ?_
   apply F.es
   have c72 := (Sb c63 s69 (fun kq e => by cases e; exact lo8))
   apply h10
   refine wp_ret ?_
   try simp only [Exit.then]
   refine retCT (x := .bool false) rfl kk kk kk kk x68 ?_
   exact ⟨⟨0, 0, 0, 0⟩, _, rfl, fun q hq e => absurd (show False from by have h9 := line_len e; have h8 := line_ends hx46 hq e; omega) id, c72⟩
  refine Fq (.bool false) (r_neq (m := (n48 : Int)) (n := 2) rfl ek ek (df q64)) ?_
  apply F.es
  apply h9
  refine wp_cond_false ek ?_
  apply wp_skip
  apply h8
  refine wk fun K11 h11 => ?_
  refine W.region_sch (row := none) (Sch.of [(0, false), (1, false), (2, false), (3, false), (4, false), (5, false), (6, false), (7, false), (8, false), (9, true), (10, false), (11, false), (12, false), (13, false), (14, false)]) kk kk (fun _ d _ _ _ h => by cases d <;> exact h) kk (fun w73 e74 s75 => ?_)
  have ho76 := own_heap ho60 e74
  have ho77 := own_heap ho51 e74
  refine Fv (.slice (some ⟨g19, 0, none⟩) n12 c13) ?_
  refine Fq (.pointer (some ⟨g19, 0, none⟩)) (r_idx0 (n := n12) (c := c13) (k := 0) rfl ek kk kk (by omega)) ?_
  refine Fl (.string x34) (sgS (own_atS ho60 hx35) (by simp)) ?_
  refine Fv (.slice (some ⟨g19, 0, none⟩) n12 c13) ?_
  refine Fq (.pointer (some ⟨g19, 0, none⟩)) (r_idx0 (n := n12) (c := c13) (k := 0) rfl ek kk kk (by omega)) ?_
  refine Fl (.string x34) (sgS (own_atS ho60 hx35) (by simp)) ?_
  refine Fq (.int .i64 ((x34.size : Nat) : Int)) (r_lenS (s := x34) rfl ek kk) ?_
  refine Fq (.int .i64 ((x34.size - 1 : Nat) : Int)) (r_sub (m := ((x34.size : Nat) : Int)) (n := 1) (z := ((x34.size - 1 : Nat) : Int)) rfl ek ek (by omega) (by omega)) ?_
  refine Fq (.string (x34.extract 0 (x34.size - 1))) (r_toS (s := x34) (h := x34.size - 1) rfl ek ek kk (by omega)) ?_
  refine Fc [.string (x34.extract 0 (x34.size - 1))] (l1Read_any (x34.extract 0 (x34.size - 1)) _ (Nl (ext_le _ _ _) (by omega))) ?_
  rintro e w79 ⟨rfl, b78⟩
  have s80 := SG.of_below s75 b78
  refine ⟨_, rfl, s80, ?_⟩
  apply F.nx
  have ho81 := own_kept ho76 b78
  have ho82 := own_kept ho77 b78
  refine Fv (.tuple #[.int .i64 (ParseInt_v0 (x34.extract 0 (x34.size - 1))), .bool (ParseInt_v1 (x34.extract 0 (x34.size - 1)))]) ?_
  refine Fq (.int .i64 (ParseInt_v0 (x34.extract 0 (x34.size - 1)))) (r_extract (vs := #[.int .i64 (ParseInt_v0 (x34.extract 0 (x34.size - 1))), .bool (ParseInt_v1 (x34.extract 0 (x34.size - 1)))]) rfl ek kk) ?_
  refine Fq (.bool (ParseInt_v1 (x34.extract 0 (x34.size - 1)))) (r_extract (vs := #[.int .i64 (ParseInt_v0 (x34.extract 0 (x34.size - 1))), .bool (ParseInt_v1 (x34.extract 0 (x34.size - 1)))]) rfl ek kk) ?_
  refine Fa (.int .i64 (ParseInt_v0 (x34.extract 0 (x34.size - 1)))) ?_
  refine Fa (.bool (ParseInt_v1 (x34.extract 0 (x34.size - 1)))) ?_
  apply F.es
  have x6 := Sk s80 x6 onn
  have c83 := (Sb c63 s80 nkk)
  apply h11
  refine wk fun K12 h12 => ?_
  refine W.region_plain (row := none) [(0, false), (1, false), (2, false), (3, true), (4, false), (5, false), (6, false), (7, false), (8, false)] kk ?_
  have s84 := SG.self w79 none
  refine Fv (.slice (some ⟨g55, 0, none⟩) n48 c49) ?_
  refine Fq (.pointer (some ⟨g55, 0, none⟩)) (r_idx0 (n := n48) (c := c49) (k := 0) rfl ek kk kk (by omega)) ?_
  obtain ⟨x85, hx86⟩ := get_of (zs := (splitL x45 45)) (k := 0) (by have h9 := own_len ho82; rw [strs_len] at h9; omega)
  have hx85 := split_part (c := 45) (by omega) hx86
  refine Fl (.string x85) (sgS (own_atS ho82 hx86) (by simp)) ?_
  refine Fc [.string x85] (l1Read_any x85 _ (by omega)) ?_
  rintro e w88 ⟨rfl, b87⟩
  have s89 := SG.of_below s84 b87
  refine ⟨_, rfl, s89, ?_⟩
  apply F.nx
  have ho90 := own_kept ho81 b87
  have ho91 := own_kept ho82 b87
  refine Fv (.tuple #[.int .i64 (ParseInt_v0 x85), .bool (ParseInt_v1 x85)]) ?_
  refine Fq (.int .i64 (ParseInt_v0 x85)) (r_extract (vs := #[.int .i64 (ParseInt_v0 x85), .bool (ParseInt_v1 x85)]) rfl ek kk) ?_
  refine Fq (.bool (ParseInt_v1 x85)) (r_extract (vs := #[.int .i64 (ParseInt_v0 x85), .bool (ParseInt_v1 x85)]) rfl ek kk) ?_
  refine Fa (.int .i64 (ParseInt_v0 x85)) ?_
  refine Fa (.bool (ParseInt_v1 x85)) ?_
  apply F.es
  have x6 := Sk s89 x6 onn
  have c92 := (Sb c83 s89 nkk)
  apply h12
  as_aux_lemma =>
   refine wk fun K13 h13 => ?_
   refine W.region_plain (row := none) [(0, false), (1, false), (2, false), (3, true), (4, false), (5, false), (6, false), (7, false), (8, false)] kk ?_
   have s93 := SG.self w88 none
   refine Fv (.slice (some ⟨g55, 0, none⟩) n48 c49) ?_
   refine Fq (.pointer (some ⟨g55, 1, none⟩)) (r_idx0 (n := n48) (c := c49) (k := 1) rfl ek kk kk (by omega)) ?_
   obtain ⟨x94, hx95⟩ := get_of (zs := (splitL x45 45)) (k := 1) (by have h9 := own_len ho91; rw [strs_len] at h9; omega)
   have hx94 := split_part (c := 45) (by omega) hx95
   refine Fl (.string x94) (sgS (own_atS ho91 hx95) (by simp)) ?_
   refine Fc [.string x94] (l1Read_any x94 _ (by omega)) ?_
   rintro e w97 ⟨rfl, b96⟩
   have s98 := SG.of_below s93 b96
   refine ⟨_, rfl, s98, ?_⟩
   apply F.nx
   have ho99 := own_kept ho90 b96
   refine Fv (.tuple #[.int .i64 (ParseInt_v0 x94), .bool (ParseInt_v1 x94)]) ?_
   refine Fq (.int .i64 (ParseInt_v0 x94)) (r_extract (vs := #[.int .i64 (ParseInt_v0 x94), .bool (ParseInt_v1 x94)]) rfl ek kk) ?_
   refine Fq (.bool (ParseInt_v1 x94)) (r_extract (vs := #[.int .i64 (ParseInt_v0 x94), .bool (ParseInt_v1 x94)]) rfl ek kk) ?_
   refine Fa (.int .i64 (ParseInt_v0 x94)) ?_
   refine Fa (.bool (ParseInt_v1 x94)) ?_
   apply F.es
   have x6 := Sk s98 x6 onn
   have c101 := (Sb c92 s98 nkk)
   apply h13
   refine wk fun K14 h14 => ?_
   refine W.region_plain (row := none) [(0, false), (1, false), (2, false), (3, true), (4, false), (5, false), (6, false), (7, false), (8, false)] kk ?_
   have s102 := SG.self w97 none
   refine Fv (.slice (some ⟨g19, 0, none⟩) n12 c13) ?_
   refine Fq (.pointer (some ⟨g19, 3, none⟩)) (r_idx0 (n := n12) (c := c13) (k := 3) rfl ek kk kk (by omega)) ?_
   obtain ⟨x103, hx104⟩ := get_of (zs := (splitL s 32)) (k := 3) (by have h9 := own_len ho99; rw [strs_len] at h9; omega)
   have hx103 := split_part (c := 32) (by omega) hx104
   refine Fl (.string x103) (sgS (own_atS ho99 hx104) (by simp)) ?_
   refine Fc [.string x103] (l1Read_any x103 _ (by omega)) ?_
   rintro e w106 ⟨rfl, b105⟩
   have s107 := SG.of_below s102 b105
   refine ⟨_, rfl, s107, ?_⟩
   apply F.nx
   refine Fv (.tuple #[.int .i64 (ParseInt_v0 x103), .bool (ParseInt_v1 x103)]) ?_
   refine Fq (.int .i64 (ParseInt_v0 x103)) (r_extract (vs := #[.int .i64 (ParseInt_v0 x103), .bool (ParseInt_v1 x103)]) rfl ek kk) ?_
   refine Fq (.bool (ParseInt_v1 x103)) (r_extract (vs := #[.int .i64 (ParseInt_v0 x103), .bool (ParseInt_v1 x103)]) rfl ek kk) ?_
   refine Fa (.int .i64 (ParseInt_v0 x103)) ?_
   refine Fa (.bool (ParseInt_v1 x103)) ?_
   apply F.es
   have x6 := Sk s107 x6 onn
   have c110 := (Sb c101 s107 nkk)
   apply h14
   refine wk fun K15 h15 => ?_
   refine W.region_plain (row := (some b2)) [(0, false), (1, false), (2, false), (3, false), (4, false), (5, false), (6, false), (7, false), (8, false), (9, false), (10, false), (11, false), (12, false), (13, false), (14, false), (15, true), (16, false)] kk ?_
   have s111 := SG.self w106 (some b2)
   refine Fv (.int .i64 (ParseInt_v0 (x34.extract 0 (x34.size - 1)))) ?_
   refine Fv (.int .i64 (ParseInt_v0 x85)) ?_
   refine Fv (.int .i64 (ParseInt_v0 x94)) ?_
   refine Fv (.int .i64 (ParseInt_v0 x103)) ?_
   refine Fq (.agg #[.int .i64 (ParseInt_v0 (x34.extract 0 (x34.size - 1))), .int .i64 (ParseInt_v0 x85), .int .i64 (ParseInt_v0 x94), .int .i64 (ParseInt_v0 x103)]) (r_build rfl (vs := [(0, .int .i64 (ParseInt_v0 (x34.extract 0 (x34.size - 1)))), (1, .int .i64 (ParseInt_v0 x85)), (2, .int .i64 (ParseInt_v0 x94)), (3, .int .i64 (ParseInt_v0 x103))]) kk kk) ?_
   refine Fv (.bool (ParseInt_v1 (x34.extract 0 (x34.size - 1)))) ?_
   refine Fv (.bool (ParseInt_v1 (x34.extract 0 (x34.size - 1)))) ?_
   rcases Bool.eq_false_or_eq_true (ParseInt_v1 (x34.extract 0 (x34.size - 1))) with q112 | q112
   ·rw [q112]
    refine Fv (.bool (ParseInt_v1 x85)) ?_
    refine Fq (.bool (ParseInt_v1 x85)) (r_pick (b := true) rfl ek ek) ?_
    refine Fv (.bool (ParseInt_v1 x85)) ?_
    rcases Bool.eq_false_or_eq_true (ParseInt_v1 x85) with q113 | q113
    ·rw [q113]
     refine Fv (.bool (ParseInt_v1 x94)) ?_
     refine Fq (.bool (ParseInt_v1 x94)) (r_pick (b := true) rfl ek ek) ?_
     refine Fv (.bool (ParseInt_v1 x94)) ?_
     rcases Bool.eq_false_or_eq_true (ParseInt_v1 x94) with q114 | q114
     ·rw [q114]
      refine Fv (.bool (ParseInt_v1 x103)) ?_
      refine Fq (.bool (ParseInt_v1 x103)) (r_pick (b := true) rfl ek ek) ?_
      refine W.ss (v := .agg #[.int .i64 (ParseInt_v0 (x34.extract 0 (x34.size - 1))), .int .i64 (ParseInt_v0 x85), .int .i64 (ParseInt_v0 x94), .int .i64 (ParseInt_v0 x103)]) (j := 0) (news := [.int .i64 (ParseInt_v0 (x34.extract 0 (x34.size - 1))), .int .i64 (ParseInt_v0 x85), .int .i64 (ParseInt_v0 x94), .int .i64 (ParseInt_v0 x103)]) (cs' := #[.int .i64 (ParseInt_v0 (x34.extract 0 (x34.size - 1))), .int .i64 (ParseInt_v0 x85), .int .i64 (ParseInt_v0 x94), .int .i64 (ParseInt_v0 x103)]) s111 rfl kk rfl rfl kk kk x6 kk kk (by simp) kk kk (.inl rfl) (fun w115 g116 x117 s118 => ?_)
      refine Fa (.bool (ParseInt_v1 x103)) ?_
      apply F.es
      have c121 := (Sb c110 s118 (fun kq e => by cases e; exact lo8))
      apply h15
      as_aux_lemma =>
       refine wp_ret ?_
       try simp only [Exit.then]
       refine retCT (x := .bool (ParseInt_v1 x103)) rfl kk kk kk kk x117 ?_
       have hbb : (ParseInt_v1 (x34.extract 0 (x34.size - 1)) && (ParseInt_v1 x85 && (ParseInt_v1 x94 && ParseInt_v1 x103))) = (ParseInt_v1 x103) := by rw [q112, q113, q114]; try rfl
       exact ⟨⟨(ParseInt_v0 (x34.extract 0 (x34.size - 1))), (ParseInt_v0 x85), (ParseInt_v0 x94), (ParseInt_v0 x103)⟩, _, rfl, line_rel hx35 hx46 hx104 hx86 hx95 hbb, c121⟩
     rw [q114]
     refine Fs s111 ?_
     refine Fq (.bool false) (r_pick (b := false) rfl ek ek) ?_
     refine W.ss (v := .agg #[.int .i64 (ParseInt_v0 (x34.extract 0 (x34.size - 1))), .int .i64 (ParseInt_v0 x85), .int .i64 (ParseInt_v0 x94), .int .i64 (ParseInt_v0 x103)]) (j := 0) (news := [.int .i64 (ParseInt_v0 (x34.extract 0 (x34.size - 1))), .int .i64 (ParseInt_v0 x85), .int .i64 (ParseInt_v0 x94), .int .i64 (ParseInt_v0 x103)]) (cs' := #[.int .i64 (ParseInt_v0 (x34.extract 0 (x34.size - 1))), .int .i64 (ParseInt_v0 x85), .int .i64 (ParseInt_v0 x94), .int .i64 (ParseInt_v0 x103)]) s111 rfl kk rfl rfl kk kk x6 kk kk (by simp) kk kk (.inl rfl) (fun w122 g123 x124 s125 => ?_)
     refine Fa (.bool false) ?_
     apply F.es
     have c128 := (Sb c110 s125 (fun kq e => by cases e; exact lo8))
     apply h15
     refine wp_ret ?_
     try simp only [Exit.then]
     refine retCT (x := .bool false) rfl kk kk kk kk x124 ?_
     have hbb : (ParseInt_v1 (x34.extract 0 (x34.size - 1)) && (ParseInt_v1 x85 && (ParseInt_v1 x94 && ParseInt_v1 x103))) = false := by rw [q112, q113, q114]; try rfl
     exact ⟨⟨(ParseInt_v0 (x34.extract 0 (x34.size - 1))), (ParseInt_v0 x85), (ParseInt_v0 x94), (ParseInt_v0 x103)⟩, _, rfl, line_rel hx35 hx46 hx104 hx86 hx95 hbb, c128⟩
    rw [q113]
    refine Fs s111 ?_
    refine Fq (.bool false) (r_pick (b := false) rfl ek ek) ?_
    refine Fv (.bool false) ?_
    refine Fs s111 ?_
    refine Fq (.bool false) (r_pick (b := false) rfl ek ek) ?_
    refine W.ss (v := .agg #[.int .i64 (ParseInt_v0 (x34.extract 0 (x34.size - 1))), .int .i64 (ParseInt_v0 x85), .int .i64 (ParseInt_v0 x94), .int .i64 (ParseInt_v0 x103)]) (j := 0) (news := [.int .i64 (ParseInt_v0 (x34.extract 0 (x34.size - 1))), .int .i64 (ParseInt_v0 x85), .int .i64 (ParseInt_v0 x94), .int .i64 (ParseInt_v0 x103)]) (cs' := #[.int .i64 (ParseInt_v0 (x34.extract 0 (x34.size - 1))), .int .i64 (ParseInt_v0 x85), .int .i64 (ParseInt_v0 x94), .int .i64 (ParseInt_v0 x103)]) s111 rfl kk rfl rfl kk kk x6 kk kk (by simp) kk kk (.inl rfl) (fun w129 g130 x131 s132 => ?_)
    refine Fa (.bool false) ?_
    apply F.es
    have c135 := (Sb c110 s132 (fun kq e => by cases e; exact lo8))
    apply h15
    refine wp_ret ?_
    try simp only [Exit.then]
    refine retCT (x := .bool false) rfl kk kk kk kk x131 ?_
    have hbb : (ParseInt_v1 (x34.extract 0 (x34.size - 1)) && (ParseInt_v1 x85 && (ParseInt_v1 x94 && ParseInt_v1 x103))) = false := by rw [q112, q113]; try rfl
    exact ⟨⟨(ParseInt_v0 (x34.extract 0 (x34.size - 1))), (ParseInt_v0 x85), (ParseInt_v0 x94), (ParseInt_v0 x103)⟩, _, rfl, line_rel hx35 hx46 hx104 hx86 hx95 hbb, c135⟩
   rw [q112]
   refine Fs s111 ?_
   refine Fq (.bool false) (r_pick (b := false) rfl ek ek) ?_
   refine Fv (.bool false) ?_
   refine Fs s111 ?_
   refine Fq (.bool false) (r_pick (b := false) rfl ek ek) ?_
   refine Fv (.bool false) ?_
   refine Fs s111 ?_
   refine Fq (.bool false) (r_pick (b := false) rfl ek ek) ?_
   refine W.ss (v := .agg #[.int .i64 (ParseInt_v0 (x34.extract 0 (x34.size - 1))), .int .i64 (ParseInt_v0 x85), .int .i64 (ParseInt_v0 x94), .int .i64 (ParseInt_v0 x103)]) (j := 0) (news := [.int .i64 (ParseInt_v0 (x34.extract 0 (x34.size - 1))), .int .i64 (ParseInt_v0 x85), .int .i64 (ParseInt_v0 x94), .int .i64 (ParseInt_v0 x103)]) (cs' := #[.int .i64 (ParseInt_v0 (x34.extract 0 (x34.size - 1))), .int .i64 (ParseInt_v0 x85), .int .i64 (ParseInt_v0 x94), .int .i64 (ParseInt_v0 x103)]) s111 rfl kk rfl rfl kk kk x6 kk kk (by simp) kk kk (.inl rfl) (fun w136 g137 x138 s139 => ?_)
   refine Fa (.bool false) ?_
   apply F.es
   have c142 := (Sb c110 s139 (fun kq e => by cases e; exact lo8))
   apply h15
   refine wp_ret ?_
   try simp only [Exit.then]
   refine retCT (x := .bool false) rfl kk kk kk kk x138 ?_
   have hbb : (ParseInt_v1 (x34.extract 0 (x34.size - 1)) && (ParseInt_v1 x85 && (ParseInt_v1 x94 && ParseInt_v1 x103))) = false := by rw [q112]; try rfl
   exact ⟨⟨(ParseInt_v0 (x34.extract 0 (x34.size - 1))), (ParseInt_v0 x85), (ParseInt_v0 x94), (ParseInt_v0 x103)⟩, _, rfl, line_rel hx35 hx46 hx104 hx86 hx95 hbb, c142⟩
def Ora (s : ByteArray) (i : Nat) (nd : Int) (okb : Bool) (pl : List Pp) : Prop := ∀ m ps, goodN m ps = true → textN m ps = s → nd = m ∧ okb = true ∧ pl = ps.take (i - 1)
theorem ora_len {s : ByteArray} {m : Int} {ps : List Pp} (e : textN m ps = s) : (splitL s 10).length = ps.length + 2 := by
  rw [← e, split_text]; simp
theorem ora_first {s x0 : ByteArray} {m : Int} {ps : List Pp} (h0 : (splitL s 10)[0]? = some x0) (e : textN m ps = s) : x0 = headOf m := by
  rw [← e, split_text] at h0
  exact (Option.some.inj h0).symm
theorem ora_first2 {s x0 : ByteArray} {m : Int} {ps : List Pp} (h0 : (splitL s 10)[0]? = some x0) (e : textN m ps = s) : (splitL x0 32).length = 2 := by
  rw [ora_first h0 e, split_head]; rfl
theorem ora_start {s x0 x1 : ByteArray} (h0 : (splitL s 10)[0]? = some x0) (h1 : (splitL x0 32)[1]? = some x1) : Ora s 1 (ParseInt_v0 x1) (ParseInt_v1 x1) [] := fun m ps hg e => by
  rw [ora_first h0 e, split_head] at h1
  obtain rfl := Option.some.inj h1
  have g := good_of hg
  have a := num_yes (s := itoaB m) (m := m) (by have := g.lo; have := g.hi; omega) rfl
  exact ⟨a.2, a.1, by simp⟩
theorem ora_next {s x : ByteArray} {i : Nat} {nd : Int} {okb b b2 : Bool} {pl : List Pp} {p : Pp} (h : Ora s i nd okb pl) (hi : 1 ≤ i) (hl : i + 1 < (splitL s 10).length) (hx : (splitL s 10)[i]? = some x) (hr : lineRel x p b) (hb : (okb && b) = b2) : Ora s (i + 1) nd b2 (pl ++ [p]) := fun m ps hg e => by
  obtain ⟨h1, h2, h3⟩ := h m ps hg e
  have hlen := ora_len e
  obtain ⟨k, rfl⟩ : ∃ k, i = k + 1 := ⟨i - 1, by omega⟩
  rw [← e, split_text, List.getElem?_cons_succ, List.getElem?_append_left (by rw [List.length_map]; omega), List.getElem?_map] at hx
  have hk : k < ps.length := by omega
  rw [List.getElem?_eq_getElem hk] at hx
  have hx' := Option.some.inj hx
  obtain ⟨r1, r2⟩ := hr ps[k] (good_okP hg (List.getElem_mem hk)) hx'.symm
  refine ⟨h1, by rw [← hb, h2, r2]; rfl, ?_⟩
  rw [h3, r1]
  show ps.take k ++ [ps[k]] = ps.take (k + 1)
  rw [List.take_add_one, List.getElem?_eq_getElem hk]; rfl
theorem ora_end {s : ByteArray} {i : Nat} {nd : Int} {okb : Bool} {pl : List Pp} (h : Ora s i nd okb pl) (hi : (splitL s 10).length ≤ i + 1) : ∀ m ps, goodN m ps = true → textN m ps = s → nd = m ∧ okb = true ∧ pl = ps := fun m ps hg e => by
  obtain ⟨h1, h2, h3⟩ := h m ps hg e
  have := ora_len e
  exact ⟨h1, h2, by rw [h3, List.take_of_length_le (by omega)]⟩
theorem itoa2 : ∀ u : Fin 100, (Lib.decDigits u.val).length ≤ 2 := by decide +kernel
theorem itoa_short {n : Int} (h0 : 0 ≤ n) (h1 : n ≤ 99) : (itoaB n).size ≤ 2 := by
  obtain ⟨k, rfl⟩ := Int.eq_ofNat_of_zero_le h0
  rw [itoaB_size]
  have e : Lib.itoa (k : Int) = Lib.decDigits k := by unfold Lib.itoa; rw [if_neg (by omega)]; simp
  rw [e]
  exact itoa2 ⟨k, by omega⟩
theorem text_short {m : Int} {ps : List Pp} (hg : goodN m ps = true) : (textN m ps).size ≤ 250 := by
  have g := good_of hg
  have key : ∀ (r : List Pp) (x : ByteArray), (∀ p ∈ r, p ∈ ps) → (r.foldl (fun s p => s ++ lineB p) x).size ≤ x.size + 18 * r.length := by
    intro r
    induction r with
    | nil => intro x _; exact Nat.le_refl _
    | cons p r ih =>
      intro x hp
      have h1 := ih (x ++ lineB p) (fun q hq => hp q (List.mem_cons_of_mem _ hq))
      have h2 := g.pipe (hp p (List.mem_cons_self ..))
      have h3 := g.hi
      have h4 : (lineB p).size ≤ 18 := by
        unfold lineB
        simp only [ByteArray.size_append, size1, sz2, sz6]
        have := itoa_short (n := p.id) (by omega) (by omega)
        have := itoa_short (n := p.fr) (by omega) (by omega)
        have := itoa_short (n := p.to) (by omega) (by omega)
        have := itoa_short (n := p.sz) (by omega) (by omega)
        omega
      rw [List.foldl_cons, List.length_cons]
      rw [ByteArray.size_append] at h1
      omega
  have h := key ps ((⟨#[110, 111, 100, 101, 115, 32]⟩ : ByteArray) ++ itoaB m ++ (⟨#[10]⟩ : ByteArray)) (fun p hp => hp)
  have h5 := itoa_short (n := m) (by have := g.lo; omega) (by have := g.hi; omega)
  simp only [ByteArray.size_append, size1, sz6] at h
  have := g.len
  unfold textN
  omega
set_option maxRecDepth 100000 in
set_option maxHeartbeats 1000000 in
theorem l2Parse_any (s : ByteArray) (w : World) (hs : s.size ≤ 1048576) :
    Calls Tryd.prog 37 #[.string s] w fun e w' => ∃ A' d, e = .returned (.tuple #[.agg #[.int .i64 (ParseNetwork_v0m s), .slice A' (ParseNetwork_v0 s).length d], .bool (ParseNetwork_v1 s)]) ∧ w'.ownsRow w.heap.size 38 4 (.slice A' (ParseNetwork_v0 s).length d) (ParseNetwork_v0 s).length (pipesV (ParseNetwork_v0 s)) ∧ Below w.heap.size w w' := by
 go_enter Tryd.func37, Tryd.ntmps37
 refine F.begin 82 [(0, .string s)] (fun U0 => ?_)
 refine wk fun K1 h1 => ?_
 refine W.region_plain (row := none) [(0, true), (1, false)] kk ?_
 have s1 := SG.self w none
 refine W.sn (fun b => .pointer (some ⟨b, 0, none⟩)) #[.int .i64 0, .slice none 0 0] 24 s1 rfl kk rfl (fun _ => by kernel_rfl) (fun b2 w3 hb4 k5 x6 s7 => ?_)
 apply F.nx
 have lo8 : w.heap.size ≤ b2 := Nl ((Sb (Below.refl _ _) s1 nkk)).size (Nat.le_of_eq hb4)
 refine Fa (.bool false) ?_
 apply F.es
 have c9 := (Sb (Below.refl _ _) s7 nkk)
 apply h1
 refine wk fun K2 h2 => ?_
 refine W.region_plain (row := none) [(0, false), (1, true), (2, false)] kk ?_
 have s10 := SG.self w3 none
 refine Fv (.string s) ?_
 have lb20 := (Nat.lt_of_lt_of_le (blk_lt x6) (s10).size)
 have z16 := ((Sb c9 s10 nkk)).size
 refine Fc [.string s, .int .u8 10] (l1Split_any s 10 _ (by omega)) ?_
 rintro e w22 ⟨A11, n12, c13, rfl, ho14, b21⟩
 have s23 := SG.of_below s10 b21
 refine ⟨_, rfl, s23, ?_⟩
 apply F.nx
 have ho15 := own_base (base' := w.heap.size) ho14 z16
 have hl18 := rd_strs_len (own_rd ho15)
 have hl18p := splitL_pos s 10
 have hl18q := splitL_len s 10
 obtain ⟨g19, rfl, _, _⟩ := own_addr ho15 (by omega)
 refine Fa (.slice (some ⟨g19, 0, none⟩) n12 c13) ?_
 apply F.es
 have x6 := Sk s23 x6 onn
 have c25 := (Sb c9 s23 nkk)
 apply h2
 refine wk fun K3 h3 => ?_
 refine W.region_plain (row := none) [(0, false), (1, false), (2, false), (3, true), (4, false)] kk ?_
 have s26 := SG.self w22 none
 refine Fv (.slice (some ⟨g19, 0, none⟩) n12 c13) ?_
 refine Fq (.pointer (some ⟨g19, 0, none⟩)) (r_idx0 (n := n12) (c := c13) (k := 0) rfl ek kk kk (by omega)) ?_
 obtain ⟨x27, hx28⟩ := get_of (zs := (splitL s 10)) (k := 0) (by have h9 := own_len ho15; rw [strs_len] at h9; omega)
 have hx27 := split_part (c := 10) (by omega) hx28
 refine Fl (.string x27) (sgS (own_atS ho15 hx28) (by simp)) ?_
 have lb38 := (Nat.lt_of_lt_of_le (blk_lt x6) (s26).size)
 have z34 := ((Sb c25 s26 nkk)).size
 refine Fc [.string x27, .int .u8 32] (l1Split_any x27 32 _ (by omega)) ?_
 rintro e w40 ⟨A29, n30, c31, rfl, ho32, b39⟩
 have s41 := SG.of_below s26 b39
 refine ⟨_, rfl, s41, ?_⟩
 apply F.nx
 have ho42 := own_kept ho15 b39
 have ho33 := own_base (base' := w.heap.size) ho32 z34
 have hl36 := rd_strs_len (own_rd ho33)
 have hl36p := splitL_pos x27 32
 have hl36q := splitL_len x27 32
 obtain ⟨g37, rfl, _, _⟩ := own_addr ho33 (by omega)
 refine Fa (.slice (some ⟨g37, 0, none⟩) n30 c31) ?_
 apply F.es
 have x6 := Sk s41 x6 onn
 have c45 := (Sb c25 s41 nkk)
 apply h3
 as_aux_lemma =>
  refine wk fun K4 h4 => ?_
  refine wk fun K5 h5 => ?_
  refine Rq 13 ?_
  refine Fv (.string s) ?_
  refine Fq (.int .i64 ((s.size : Nat) : Int)) (r_lenS (s := s) rfl ek kk) ?_
  by_cases q46 : (((s.size : Nat) : Int) : Int) > (300 : Int)
  ·refine Fq (.bool true) (r_gtr (m := ((s.size : Nat) : Int)) (n := 300) rfl ek ek (dt q46)) ?_
   refine Fv (.bool true) ?_
   refine Fs rfl ?_
   refine Fs rfl ?_
   refine Fs rfl ?_
   refine Fq (.bool true) (r_pick (b := true) rfl ek ek) ?_
   refine Fv (.bool true) ?_
   refine Fs rfl ?_
   refine Fs rfl ?_
   refine Fs rfl ?_
   refine Fq (.bool true) (r_pick (b := true) rfl ek ek) ?_
   apply F.es
   apply h5
   refine wp_cond_true ek ?_
   refine wk fun K6 h6 => ?_
   refine W.region_plain (row := (some b2)) [(0, false), (1, true), (2, false)] kk ?_
   have s47 := SG.self w40 (some b2)
   refine Fq (.agg #[.int .i64 0, .slice none 0 0]) (r_build rfl (vs := []) kk kk) ?_
   refine W.ss (v := .agg #[.int .i64 0, .slice none 0 0]) (j := 0) (news := [.int .i64 0, .slice none 0 0]) (cs' := #[.int .i64 0, .slice none 0 0]) s47 rfl kk rfl rfl kk kk x6 kk kk (by simp) kk kk (.inl rfl) (fun w48 g49 x50 s51 => ?_)
   refine Fa (.bool false) ?_
   apply F.es
   have c54 := (Sb c45 s51 (fun kq e => by cases e; exact lo8))
   apply h6
   refine wp_ret ?_
   try simp only [Exit.then]
   refine retCT (x := .bool false) rfl kk kk kk kk x50 ?_
   have hpn := pn_no (s := s) (fun m ps h1 h2 => by have h9 := text_short h1; rw [h2] at h9; have h8 := ora_len h2; have h7 := ora_first2 hx28 h2; omega)
   exact fin_net (zs := []) (World.ownsRow_nil _ _ _ _) hpn.2.2.symm hpn.2.1.symm hpn.1.symm c54
  refine Fq (.bool false) (r_gtr (m := ((s.size : Nat) : Int)) (n := 300) rfl ek ek (df q46)) ?_
  refine Fv (.bool false) ?_
  refine Fv (.slice (some ⟨g19, 0, none⟩) n12 c13) ?_
  refine Fq (.int .i64 (n12 : Int)) (r_len (A := (some ⟨g19, 0, none⟩)) (n := n12) (c := c13) rfl ek kk) ?_
  by_cases q55 : ((n12 : Int) : Int) < (2 : Int)
  ·refine Fq (.bool true) (r_lss (m := (n12 : Int)) (n := 2) rfl ek ek (dt q55)) ?_
   refine Fq (.bool true) (r_pick (b := false) rfl ek ek) ?_
   refine Fv (.bool true) ?_
   refine Fs rfl ?_
   refine Fs rfl ?_
   refine Fs rfl ?_
   refine Fq (.bool true) (r_pick (b := true) rfl ek ek) ?_
   apply F.es
   apply h5
   refine wp_cond_true ek ?_
   refine wk fun K7 h7 => ?_
   refine W.region_plain (row := (some b2)) [(0, false), (1, true), (2, false)] kk ?_
   have s56 := SG.self w40 (some b2)
   refine Fq (.agg #[.int .i64 0, .slice none 0 0]) (r_build rfl (vs := []) kk kk) ?_
   refine W.ss (v := .agg #[.int .i64 0, .slice none 0 0]) (j := 0) (news := [.int .i64 0, .slice none 0 0]) (cs' := #[.int .i64 0, .slice none 0 0]) s56 rfl kk rfl rfl kk kk x6 kk kk (by simp) kk kk (.inl rfl) (fun w57 g58 x59 s60 => ?_)
   refine Fa (.bool false) ?_
   apply F.es
   have c63 := (Sb c45 s60 (fun kq e => by cases e; exact lo8))
   apply h7
   as_aux_lemma =>
    refine wp_ret ?_
    try simp only [Exit.then]
    refine retCT (x := .bool false) rfl kk kk kk kk x59 ?_
    have hpn := pn_no (s := s) (fun m ps h1 h2 => by have h9 := text_short h1; rw [h2] at h9; have h8 := ora_len h2; have h7 := ora_first2 hx28 h2; omega)
    exact fin_net (zs := []) (World.ownsRow_nil _ _ _ _) hpn.2.2.symm hpn.2.1.symm hpn.1.symm c63
  refine Fq (.bool false) (r_lss (m := (n12 : Int)) (n := 2) rfl ek ek (df q55)) ?_
  refine Fq (.bool false) (r_pick (b := false) rfl ek ek) ?_
  refine Fv (.bool false) ?_
  refine Fv (.slice (some ⟨g37, 0, none⟩) n30 c31) ?_
  refine Fq (.int .i64 (n30 : Int)) (r_len (A := (some ⟨g37, 0, none⟩)) (n := n30) (c := c31) rfl ek kk) ?_
  by_cases q64 : ((n30 : Int) : Int) ≠ (2 : Int)
  ·refine Fq (.bool true) (r_neq (m := (n30 : Int)) (n := 2) rfl ek ek (dt q64)) ?_
   refine Fq (.bool true) (r_pick (b := false) rfl ek ek) ?_
   apply F.es
   apply h5
   refine wp_cond_true ek ?_
   refine wk fun K8 h8 => ?_
   refine W.region_plain (row := (some b2)) [(0, false), (1, true), (2, false)] kk ?_
   have s65 := SG.self w40 (some b2)
   refine Fq (.agg #[.int .i64 0, .slice none 0 0]) (r_build rfl (vs := []) kk kk) ?_
   refine W.ss (v := .agg #[.int .i64 0, .slice none 0 0]) (j := 0) (news := [.int .i64 0, .slice none 0 0]) (cs' := #[.int .i64 0, .slice none 0 0]) s65 rfl kk rfl rfl kk kk x6 kk kk (by simp) kk kk (.inl rfl) (fun w66 g67 x68 s69 => ?_)
   refine Fa (.bool false) ?_
   apply F.es
   have c72 := (Sb c45 s69 (fun kq e => by cases e; exact lo8))
   apply h8
   refine wp_ret ?_
   try simp only [Exit.then]
   refine retCT (x := .bool false) rfl kk kk kk kk x68 ?_
   have hpn := pn_no (s := s) (fun m ps h1 h2 => by have h9 := text_short h1; rw [h2] at h9; have h8 := ora_len h2; have h7 := ora_first2 hx28 h2; omega)
   exact fin_net (zs := []) (World.ownsRow_nil _ _ _ _) hpn.2.2.symm hpn.2.1.symm hpn.1.symm c72
  refine Fq (.bool false) (r_neq (m := (n30 : Int)) (n := 2) rfl ek ek (df q64)) ?_
  refine Fq (.bool false) (r_pick (b := false) rfl ek ek) ?_
  apply F.es
  apply h5
  refine wp_cond_false ek ?_
  apply wp_skip
  apply h4
  refine wk fun K9 h9 => ?_
  refine W.region_plain (row := none) [(0, false), (1, false), (2, false), (3, true), (4, false), (5, false), (6, false), (7, false), (8, false)] kk ?_
  have s73 := SG.self w40 none
  refine Fv (.slice (some ⟨g37, 0, none⟩) n30 c31) ?_
  refine Fq (.pointer (some ⟨g37, 1, none⟩)) (r_idx0 (n := n30) (c := c31) (k := 1) rfl ek kk kk (by omega)) ?_
  obtain ⟨x74, hx75⟩ := get_of (zs := (splitL x27 32)) (k := 1) (by have h9 := own_len ho33; rw [strs_len] at h9; omega)
  have hx74 := split_part (c := 32) (by omega) hx75
  refine Fl (.string x74) (sgS (own_atS ho33 hx75) (by simp)) ?_
  refine Fc [.string x74] (l1Read_any x74 _ (by omega)) ?_
  rintro e w77 ⟨rfl, b76⟩
  have s78 := SG.of_below s73 b76
  refine ⟨_, rfl, s78, ?_⟩
  apply F.nx
  have ho79 := own_kept ho42 b76
  refine Fv (.tuple #[.int .i64 (ParseInt_v0 x74), .bool (ParseInt_v1 x74)]) ?_
  refine Fq (.int .i64 (ParseInt_v0 x74)) (r_extract (vs := #[.int .i64 (ParseInt_v0 x74), .bool (ParseInt_v1 x74)]) rfl ek kk) ?_
  refine Fq (.bool (ParseInt_v1 x74)) (r_extract (vs := #[.int .i64 (ParseInt_v0 x74), .bool (ParseInt_v1 x74)]) rfl ek kk) ?_
  refine Fa (.int .i64 (ParseInt_v0 x74)) ?_
  refine Fa (.bool (ParseInt_v1 x74)) ?_
  apply F.es
  have x6 := Sk s78 x6 onn
  have c81 := (Sb c45 s78 nkk)
  apply h9
  as_aux_lemma =>
   refine wk fun K10 h10 => ?_
   refine W.region_plain (row := none) [(0, false), (1, true), (2, false), (3, true), (4, true)] kk ?_
   have s82 := SG.self w77 none
   refine Fv (.int .i64 (ParseInt_v0 x74)) ?_
   refine W.sn (fun b => .slice (some ⟨b, 0, none⟩) 0 0) #[] 38 s82 rfl kk rfl (fun _ => by kernel_rfl) (fun b83 w84 hb85 k86 x87 s88 => ?_)
   apply F.nx
   have lo89 : w.heap.size ≤ b83 := Nl ((Sb c81 s82 nkk)).size (Nat.le_of_eq hb85)
   have ne90 : b2 ≠ b83 := Nat.ne_of_lt (Nat.lt_of_lt_of_eq (Nat.lt_of_lt_of_le (blk_lt x6) (s82).size) hb85)
   have nb91 : Nb b83 (.slice (some ⟨g19, 0, none⟩) n12 c13) := nb_hi ho79 (Nat.le_of_eq hb85)
   have ho93 := own_kept ho79 k86
   refine Fq (.agg #[.int .i64 (ParseInt_v0 x74), .slice (some ⟨b83, 0, none⟩) 0 0]) (r_build rfl (vs := [(0, .int .i64 (ParseInt_v0 x74)), (1, .slice (some ⟨b83, 0, none⟩) 0 0)]) kk kk) ?_
   refine W.sn (fun b => .pointer (some ⟨b, 0, none⟩)) #[.int .i64 0, .slice none 0 0] 24 s88 rfl kk rfl (fun _ => by kernel_rfl) (fun b95 w96 hb97 k98 x99 s100 => ?_)
   apply F.nx
   have lo101 : w.heap.size ≤ b95 := Nl ((Sb c81 s88 nkk)).size (Nat.le_of_eq hb97)
   have ne102 : b2 ≠ b95 := Nat.ne_of_lt (Nat.lt_of_lt_of_eq (Nat.lt_of_lt_of_le (blk_lt x6) (s88).size) hb97)
   have ne103 : b83 ≠ b95 := Nat.ne_of_lt (Nat.lt_of_lt_of_eq (blk_lt x87) hb97)
   have nb104 : Nb b95 (.slice (some ⟨g19, 0, none⟩) n12 c13) := nb_hi ho93 (Nat.le_of_eq hb97)
   have x87 := (k98.block _ (blk_lt x87)).trans x87
   have ho106 := own_kept ho93 k98
   refine W.ss (v := .agg #[.int .i64 (ParseInt_v0 x74), .slice (some ⟨b83, 0, none⟩) 0 0]) (j := 0) (news := [.int .i64 (ParseInt_v0 x74), .slice (some ⟨b83, 0, none⟩) 0 0]) (cs' := #[.int .i64 (ParseInt_v0 x74), .slice (some ⟨b83, 0, none⟩) 0 0]) s100 rfl kk rfl rfl kk kk x99 kk kk (by simp) kk kk (.inr (Nl (s88).size (Nat.le_of_eq hb97))) (fun w108 g109 x110 s111 => ?_)
   have x87 := (g109.block _ (blk_lt x87) (fun e9 => ne103 (Option.some.inj e9))).trans x87
   have ho112 := own_grown ho106 g109 (fun j e1 e2 => by cases e2; exact nb104 e1.symm)
   apply F.es
   have x6 := Sk s111 x6 onn
   have c114 := (Sb c81 s111 nkk)
   apply h10
   refine wk fun K11 h11 => ?_
   refine wk fun K12 h12 => ?_
   refine Rq 1 ?_
   refine Fa (.int .i64 1) ?_
   apply F.es
   apply h12
   refine wp_block ?_
   have ho115 := own_empty (base := w.heap.size) (size := 4) x87 lo89
   replace ho115 : World.ownsRow _ _ _ _ _ _ (pipesV []) := ho115
   have nr116 : NbR (.slice (some ⟨b83, 0, none⟩) 0 0) (.slice (some ⟨g19, 0, none⟩) n12 c13) := nbr_new nb91
   have nb118 : Nb b2 (.slice (some ⟨b83, 0, none⟩) 0 0) := nb_new ne90
   have nb119 : Nb b95 (.slice (some ⟨b83, 0, none⟩) 0 0) := nb_new (Ne.symm ne103)
   refine loopK (fun am0 aa0 wl0 => ∃ (i : Nat) (okb : Bool) (pl : List Pp) (A0_c8_1 : Option Addr) (n0_c8_1 : Nat) (c0_c8_1 : Nat) , Kn aa0 [(0, .string s), (2, .pointer (some ⟨b2, 0, none⟩)), (3, .bool false), (4, .slice (some ⟨g19, 0, none⟩) n12 c13), (5, .slice (some ⟨g37, 0, none⟩) n30 c31), (6, .int .i64 (ParseInt_v0 x74)), (7, .bool okb), (8, .pointer (some ⟨b95, 0, none⟩)), (9, .int .i64 (i : Int)), (30, .bool false)] 82 ∧ (am0 = (splitL s 10).length - i) ∧ (1 ≤ i ∧ i + 1 ≤ (splitL s 10).length) ∧ (pl.length + 1 = i) ∧ (Ora s i (ParseInt_v0 x74) okb pl) ∧ (wl0.heap[b2]? = some (.cells #[.int .i64 0, .slice none 0 0] 24 (0, 0))) ∧ (wl0.heap[b95]? = some (.cells #[.int .i64 (ParseInt_v0 x74), .slice A0_c8_1 n0_c8_1 c0_c8_1] 24 (0, 0))) ∧ (wl0.ownsRow w.heap.size 9 1 (.slice (some ⟨g19, 0, none⟩) n12 c13) n12 (strsV (splitL s 10))) ∧ (wl0.ownsRow w.heap.size 38 4 (.slice A0_c8_1 n0_c8_1 c0_c8_1) n0_c8_1 (pipesV pl)) ∧ (Nb b2 (.slice A0_c8_1 n0_c8_1 c0_c8_1)) ∧ (Nb b95 (.slice A0_c8_1 n0_c8_1 c0_c8_1)) ∧ (NbR (.slice A0_c8_1 n0_c8_1 c0_c8_1) (.slice (some ⟨g19, 0, none⟩) n12 c13)) ∧ (Below w.heap.size w wl0)) ((splitL s 10).length - 1) ?_ ?_
   ·exact ⟨1, (ParseInt_v1 x74), [], (some ⟨b83, 0, none⟩), 0, 0, Kn.of, rfl, (⟨by omega, by omega⟩), rfl, (ora_start hx28 hx75), x6, x110, ho112, ho115, nb118, nb119, nr116, c114⟩
   rintro am0 aa0 wl0 K13 h13 ⟨i, okb, pl, A0_c8_1, n0_c8_1, c0_c8_1, ⟨U0, rfl⟩, rfl, hi, hpl, hor, x6, x110, ho0_4, ho0_c8_1, nb0_c8_1_b2, nb0_c8_1_b95, nr0_1_0, c120⟩
   have hl9 := rd_pipes_len (own_rd ho0_c8_1)
   refine wk fun K14 h14 => ?_
   refine wk fun K15 h15 => ?_
   refine Rq 5 ?_
   refine Fv (.int .i64 (i : Int)) ?_
   refine Fv (.slice (some ⟨g19, 0, none⟩) n12 c13) ?_
   refine Fq (.int .i64 (n12 : Int)) (r_len (A := (some ⟨g19, 0, none⟩)) (n := n12) (c := c13) rfl ek kk) ?_
   refine Fq (.int .i64 ((n12 : Int) - 1)) (r_sub (m := (n12 : Int)) (n := 1) (z := (n12 : Int) - 1) rfl ek ek (rfl) (by omega)) ?_
   by_cases q121 : ((i : Int) : Int) < ((n12 : Int) - 1 : Int)
   ·refine Fq (.bool true) (r_lss (m := (i : Int)) (n := (n12 : Int) - 1) rfl ek ek (dt q121)) ?_
    apply F.es
    apply h15
    refine wp_cond_true ek ?_
    apply wp_skip
    apply h14
    as_aux_lemma =>
     refine wk fun K16 h16 => ?_
     refine wp_block ?_
     refine wk fun K17 h17 => ?_
     refine W.region_plain (row := none) [(0, false), (1, false), (2, false), (3, false), (4, true), (5, false), (6, false), (7, false), (8, true), (9, true), (10, false)] kk ?_
     have s122 := SG.self wl0 none
     refine Fv (.slice (some ⟨g19, 0, none⟩) n12 c13) ?_
     refine Fv (.int .i64 (i : Int)) ?_
     refine Fq (.pointer (some ⟨g19, i, none⟩)) (r_idx0 (n := n12) (c := c13) (k := i) rfl ek kk kk (by omega)) ?_
     obtain ⟨x123, hx124⟩ := get_of (zs := (splitL s 10)) (k := i) (by have h9 := own_len ho0_4; rw [strs_len] at h9; omega)
     have hx123 := split_part (c := 10) (by omega) hx124
     refine Fl (.string x123) (sgS (own_atS ho0_4 hx124) (by simp)) ?_
     refine Fc [.string x123] (l2Line_any x123 _ (by omega)) ?_
     rintro e w129 ⟨p125, b126, rfl, hr127, b128⟩
     have s130 := SG.of_below s122 b128
     refine ⟨_, rfl, s130, ?_⟩
     apply F.nx
     have ho131 := own_kept ho0_4 b128
     have ho132 := own_kept ho0_c8_1 b128
     refine Fv (.tuple #[.agg #[.int .i64 p125.id, .int .i64 p125.fr, .int .i64 p125.to, .int .i64 p125.sz], .bool b126]) ?_
     refine Fq (.agg #[.int .i64 p125.id, .int .i64 p125.fr, .int .i64 p125.to, .int .i64 p125.sz]) (r_extract (vs := #[.agg #[.int .i64 p125.id, .int .i64 p125.fr, .int .i64 p125.to, .int .i64 p125.sz], .bool b126]) rfl ek kk) ?_
     refine Fq (.bool b126) (r_extract (vs := #[.agg #[.int .i64 p125.id, .int .i64 p125.fr, .int .i64 p125.to, .int .i64 p125.sz], .bool b126]) rfl ek kk) ?_
     refine W.sn (fun b => .pointer (some ⟨b, 0, none⟩)) #[.int .i64 0, .int .i64 0, .int .i64 0, .int .i64 0] 38 s130 rfl kk rfl (fun _ => by kernel_rfl) (fun b133 w134 hb135 k136 x137 s138 => ?_)
     apply F.nx
     have lo139 : w.heap.size ≤ b133 := Nl ((Sb c120 s130 nkk)).size (Nat.le_of_eq hb135)
     have ne141 : b95 ≠ b133 := Nat.ne_of_lt (Nat.lt_of_lt_of_eq (Nat.lt_of_lt_of_le (blk_lt x110) (s130).size) hb135)
     have nb142 : Nb b133 (.slice (some ⟨g19, 0, none⟩) n12 c13) := nb_hi ho131 (Nat.le_of_eq hb135)
     have nb143 : Nb b133 (.slice A0_c8_1 n0_c8_1 c0_c8_1) := nb_hi ho132 (Nat.le_of_eq hb135)
     have ho144 := own_kept ho131 k136
     have ho145 := own_kept ho132 k136
     refine W.ss (v := .agg #[.int .i64 p125.id, .int .i64 p125.fr, .int .i64 p125.to, .int .i64 p125.sz]) (j := 0) (news := [.int .i64 p125.id, .int .i64 p125.fr, .int .i64 p125.to, .int .i64 p125.sz]) (cs' := #[.int .i64 p125.id, .int .i64 p125.fr, .int .i64 p125.to, .int .i64 p125.sz]) s138 rfl kk rfl rfl kk kk x137 kk kk (by simp) kk kk (.inr (Nl (s130).size (Nat.le_of_eq hb135))) (fun w146 g147 x148 s149 => ?_)
     have ho150 := own_grown ho144 g147 (fun j e1 e2 => by cases e2; exact nb142 e1.symm)
     have ho151 := own_grown ho145 g147 (fun j e1 e2 => by cases e2; exact nb143 e1.symm)
     refine Fa (.bool b126) ?_
     apply F.es
     have x6 := Sk s149 x6 onn
     have x110 := Sk s149 x110 onn
     have c152 := (Sb c120 s149 nkk)
     apply h17
     refine wk fun K18 h18 => ?_
     refine Rq 5 ?_
     refine Fv (.bool okb) ?_
     refine Fv (.bool okb) ?_
     rcases Bool.eq_false_or_eq_true okb with q153 | q153
     ·rw [q153]
      refine Fv (.bool b126) ?_
      refine Fq (.bool b126) (r_pick (b := true) rfl ek ek) ?_
      refine Fa (.bool b126) ?_
      apply F.es
      apply h18
      refine M.region_plain (row := [(Value.ownBlock (.slice A0_c8_1 n0_c8_1 c0_c8_1)), (some b95)]) [(0, false), (1, true), (2, false), (3, true), (4, true), (5, false), (6, true)] kk ?_
      have s154 := SM.self w146 [(Value.ownBlock (.slice A0_c8_1 n0_c8_1 c0_c8_1)), (some b95)]
      refine Fq (.pointer (some ⟨b95, 1, none⟩)) (r_field (k := 1) rfl ek kk) ?_
      refine W.slq (v := .slice A0_c8_1 n0_c8_1 c0_c8_1) s154 rfl (r_load rfl kk kk (eqS (blk_cell (j := 1) x110 kk))) kk rfl ?_
      apply F.nx
      refine Fq (.agg #[.int .i64 p125.id, .int .i64 p125.fr, .int .i64 p125.to, .int .i64 p125.sz]) (r_load4 rfl ek kk kk (smS (blk_cell (j := 0) x148 kk) (ne2 nb143 (fun e9 => ne141 (Option.some.inj e9).symm))) (smS (blk_cell (j := 1) x148 kk) (ne2 nb143 (fun e9 => ne141 (Option.some.inj e9).symm))) (smS (blk_cell (j := 2) x148 kk) (ne2 nb143 (fun e9 => ne141 (Option.some.inj e9).symm))) (smS (blk_cell (j := 3) x148 kk) (ne2 nb143 (fun e9 => ne141 (Option.some.inj e9).symm)))) ?_
      refine M.sn (fun b => .slice (some ⟨b, 0, none⟩) 1 1) #[.int .i64 p125.id, .int .i64 p125.fr, .int .i64 p125.to, .int .i64 p125.sz] 38 s154 rfl kk rfl (fun _ => by kernel_rfl) (fun b155 w156 hb157 k158 x159 s160 => ?_)
      apply F.nx
      have lo161 : w.heap.size ≤ b155 := Nl ((SM.belowR c152 s154 (in2 (fun kq e => (World.ownsRow.lt ho151 kq e).1) (fun kq e => (by cases e; exact lo101))))).size (Nat.le_of_eq hb157)
      have x110 := (k158.block _ (blk_lt x110)).trans x110
      have ho167 := own_kept ho150 k158
      have ho168 := own_kept ho151 k158
      refine M.sap (e := 38) (size := 4) (base := w.heap.size) (m := 1) (v := .slice A0_c8_1 n0_c8_1 c0_c8_1) (c := 1) s160 rfl rfl rfl rfl kk kk kk ho168 x159 kk kk (by omega) (by omega) (by have := ((SM.belowR c152 s160 (in2 (fun kq e => (World.ownsRow.lt ho151 kq e).1) (fun kq e => (by cases e; exact lo101))))).size; omega) (.inl (by simp)) (fun g169 cap170 w171 ho172 hg173 hat174 hlt175 s176 => ?_)
      apply F.nx
      have nb177 : Nb b2 (.slice (some ⟨g169, 0, none⟩) (n0_c8_1 + 1) cap170) := nb_app nb0_c8_1_b2 (Nat.lt_of_lt_of_le (blk_lt x6) (s160).size) hat174
      have nb178 : Nb b95 (.slice (some ⟨g169, 0, none⟩) (n0_c8_1 + 1) cap170) := nb_app nb0_c8_1_b95 (blk_lt x110) hat174
      have x110 := (hg173.block _ (blk_lt x110) nb0_c8_1_b95).trans x110
      have ho172 := own_snocP (x := p125) ho172
      have nr181 : NbR (.slice (some ⟨g169, 0, none⟩) (n0_c8_1 + 1) cap170) (.slice (some ⟨g19, 0, none⟩) n12 c13) := nbr_app nr0_1_0 (fun j h => (World.ownsRow.lt ho167 j h).2) (hat3 (v := .slice A0_c8_1 n0_c8_1 c0_c8_1) hat174)
      have ho182 := own_grown ho167 hg173 (NbR.symm nr0_1_0)
      refine Fq (.pointer (some ⟨b95, 1, none⟩)) (r_field (k := 1) rfl ek kk) ?_
      refine M.ss (v := .slice (some ⟨g169, 0, none⟩) (n0_c8_1 + 1) cap170) (j := 1) (news := [.slice (some ⟨g169, 0, none⟩) (n0_c8_1 + 1) cap170]) (cs' := #[.int .i64 (ParseInt_v0 x74), .slice (some ⟨g169, 0, none⟩) (n0_c8_1 + 1) cap170]) s176 rfl kk rfl rfl kk kk x110 kk kk (by simp) kk kk (.inl (by simp)) (fun w183 g184 x185 s186 => ?_)
      have ho187 := own_grown ho182 g184 (fun j e1 e2 => by cases e2; exact nb104 e1.symm)
      have ho188 := own_grown ho172 g184 (fun j e1 e2 => by cases e2; exact nb178 e1.symm)
      apply F.es
      have x6 := SM.blk s186 x6 (ne2 nb0_c8_1_b2 (fun e9 => ne102 (Option.some.inj e9)))
      have x148 := SM.blk s186 x148 (ne2 nb143 (fun e9 => ne141 (Option.some.inj e9).symm))
      have c189 := (SM.belowR c152 s186 (in2 (fun kq e => (World.ownsRow.lt ho151 kq e).1) (fun kq e => (by cases e; exact lo101))))
      apply h16
      as_aux_lemma =>
       refine Rq 3 ?_
       refine Fv (.int .i64 (i : Int)) ?_
       refine Fq (.int .i64 ((i + 1 : Nat) : Int)) (r_add (m := (i : Int)) (n := 1) (z := ((i + 1 : Nat) : Int)) rfl ek ek (by omega) (by omega)) ?_
       refine Fa (.int .i64 ((i + 1 : Nat) : Int)) ?_
       apply F.es
       exact h13 _ _ _ (by omega : ((splitL s 10).length - (i + 1)) < _) ⟨i + 1, b126, (pl ++ [p125]), (some ⟨g169, 0, none⟩), (n0_c8_1 + 1), cap170, Kn.of, rfl, (by omega), (by rw [List.length_append, List.length_singleton]; omega), (ora_next hor (by omega) (by omega) hx124 hr127 (by rw [q153]; try rfl)), x6, x185, ho187, ho188, nb177, nb178, nr181, c189⟩
     rw [q153]
     refine Fs rfl ?_
     refine Fq (.bool false) (r_pick (b := false) rfl ek ek) ?_
     refine Fa (.bool false) ?_
     apply F.es
     apply h18
     refine M.region_plain (row := [(Value.ownBlock (.slice A0_c8_1 n0_c8_1 c0_c8_1)), (some b95)]) [(0, false), (1, true), (2, false), (3, true), (4, true), (5, false), (6, true)] kk ?_
     have s190 := SM.self w146 [(Value.ownBlock (.slice A0_c8_1 n0_c8_1 c0_c8_1)), (some b95)]
     refine Fq (.pointer (some ⟨b95, 1, none⟩)) (r_field (k := 1) rfl ek kk) ?_
     refine W.slq (v := .slice A0_c8_1 n0_c8_1 c0_c8_1) s190 rfl (r_load rfl kk kk (eqS (blk_cell (j := 1) x110 kk))) kk rfl ?_
     apply F.nx
     refine Fq (.agg #[.int .i64 p125.id, .int .i64 p125.fr, .int .i64 p125.to, .int .i64 p125.sz]) (r_load4 rfl ek kk kk (smS (blk_cell (j := 0) x148 kk) (ne2 nb143 (fun e9 => ne141 (Option.some.inj e9).symm))) (smS (blk_cell (j := 1) x148 kk) (ne2 nb143 (fun e9 => ne141 (Option.some.inj e9).symm))) (smS (blk_cell (j := 2) x148 kk) (ne2 nb143 (fun e9 => ne141 (Option.some.inj e9).symm))) (smS (blk_cell (j := 3) x148 kk) (ne2 nb143 (fun e9 => ne141 (Option.some.inj e9).symm)))) ?_
     refine M.sn (fun b => .slice (some ⟨b, 0, none⟩) 1 1) #[.int .i64 p125.id, .int .i64 p125.fr, .int .i64 p125.to, .int .i64 p125.sz] 38 s190 rfl kk rfl (fun _ => by kernel_rfl) (fun b191 w192 hb193 k194 x195 s196 => ?_)
     apply F.nx
     have lo197 : w.heap.size ≤ b191 := Nl ((SM.belowR c152 s190 (in2 (fun kq e => (World.ownsRow.lt ho151 kq e).1) (fun kq e => (by cases e; exact lo101))))).size (Nat.le_of_eq hb193)
     have x110 := (k194.block _ (blk_lt x110)).trans x110
     have ho203 := own_kept ho150 k194
     have ho204 := own_kept ho151 k194
     refine M.sap (e := 38) (size := 4) (base := w.heap.size) (m := 1) (v := .slice A0_c8_1 n0_c8_1 c0_c8_1) (c := 1) s196 rfl rfl rfl rfl kk kk kk ho204 x195 kk kk (by omega) (by omega) (by have := ((SM.belowR c152 s196 (in2 (fun kq e => (World.ownsRow.lt ho151 kq e).1) (fun kq e => (by cases e; exact lo101))))).size; omega) (.inl (by simp)) (fun g205 cap206 w207 ho208 hg209 hat210 hlt211 s212 => ?_)
     apply F.nx
     have nb213 : Nb b2 (.slice (some ⟨g205, 0, none⟩) (n0_c8_1 + 1) cap206) := nb_app nb0_c8_1_b2 (Nat.lt_of_lt_of_le (blk_lt x6) (s196).size) hat210
     have nb214 : Nb b95 (.slice (some ⟨g205, 0, none⟩) (n0_c8_1 + 1) cap206) := nb_app nb0_c8_1_b95 (blk_lt x110) hat210
     have x110 := (hg209.block _ (blk_lt x110) nb0_c8_1_b95).trans x110
     have ho208 := own_snocP (x := p125) ho208
     have nr217 : NbR (.slice (some ⟨g205, 0, none⟩) (n0_c8_1 + 1) cap206) (.slice (some ⟨g19, 0, none⟩) n12 c13) := nbr_app nr0_1_0 (fun j h => (World.ownsRow.lt ho203 j h).2) (hat3 (v := .slice A0_c8_1 n0_c8_1 c0_c8_1) hat210)
     have ho218 := own_grown ho203 hg209 (NbR.symm nr0_1_0)
     refine Fq (.pointer (some ⟨b95, 1, none⟩)) (r_field (k := 1) rfl ek kk) ?_
     refine M.ss (v := .slice (some ⟨g205, 0, none⟩) (n0_c8_1 + 1) cap206) (j := 1) (news := [.slice (some ⟨g205, 0, none⟩) (n0_c8_1 + 1) cap206]) (cs' := #[.int .i64 (ParseInt_v0 x74), .slice (some ⟨g205, 0, none⟩) (n0_c8_1 + 1) cap206]) s212 rfl kk rfl rfl kk kk x110 kk kk (by simp) kk kk (.inl (by simp)) (fun w219 g220 x221 s222 => ?_)
     have ho223 := own_grown ho218 g220 (fun j e1 e2 => by cases e2; exact nb104 e1.symm)
     have ho224 := own_grown ho208 g220 (fun j e1 e2 => by cases e2; exact nb214 e1.symm)
     apply F.es
     have x6 := SM.blk s222 x6 (ne2 nb0_c8_1_b2 (fun e9 => ne102 (Option.some.inj e9)))
     have c225 := (SM.belowR c152 s222 (in2 (fun kq e => (World.ownsRow.lt ho151 kq e).1) (fun kq e => (by cases e; exact lo101))))
     apply h16
     refine Rq 3 ?_
     refine Fv (.int .i64 (i : Int)) ?_
     refine Fq (.int .i64 ((i + 1 : Nat) : Int)) (r_add (m := (i : Int)) (n := 1) (z := ((i + 1 : Nat) : Int)) rfl ek ek (by omega) (by omega)) ?_
     refine Fa (.int .i64 ((i + 1 : Nat) : Int)) ?_
     apply F.es
     exact h13 _ _ _ (by omega : ((splitL s 10).length - (i + 1)) < _) ⟨i + 1, false, (pl ++ [p125]), (some ⟨g205, 0, none⟩), (n0_c8_1 + 1), cap206, Kn.of, rfl, (by omega), (by rw [List.length_append, List.length_singleton]; omega), (ora_next hor (by omega) (by omega) hx124 hr127 (by rw [q153]; try rfl)), x6, x221, ho223, ho224, nb213, nb214, nr217, c225⟩
   refine Fq (.bool false) (r_lss (m := (i : Int)) (n := (n12 : Int) - 1) rfl ek ek (df q121)) ?_
   apply F.es
   apply h15
   refine wp_cond_false ek ?_
   refine wp_exit ?_
   apply h11
   as_aux_lemma =>
    refine wk fun K19 h19 => ?_
    refine wk fun K20 h20 => ?_
    refine W.region_plain (row := none) [(0, false), (1, false), (2, false), (3, false), (4, true), (5, false), (6, false), (7, false), (8, false), (9, true), (10, false), (11, false), (12, false)] kk ?_
    have s226 := SG.self wl0 none
    refine Fv (.bool okb) ?_
    rcases Bool.eq_false_or_eq_true okb with q227 | q227
    ·rw [q227]
     refine Fq (.bool false) (r_not (b := true) rfl ek rfl) ?_
     refine Fv (.bool false) ?_
     refine Fq (.agg #[.int .i64 (ParseInt_v0 x74), .slice A0_c8_1 n0_c8_1 c0_c8_1]) (r_load2 rfl ek kk kk (sgS (blk_cell (j := 0) x110 kk) onn) (sgS (blk_cell (j := 1) x110 kk) onn)) ?_
     refine Fc [.agg #[.int .i64 (ParseInt_v0 x74), .slice A0_c8_1 n0_c8_1 c0_c8_1]] (l2Good_any (ParseInt_v0 x74) A0_c8_1 n0_c8_1 c0_c8_1 pl _ (own_rd ho0_c8_1) (by omega)) ?_
     rintro e w229 ⟨rfl, b228⟩
     have s230 := SG.of_below s226 b228
     refine ⟨_, rfl, s230, ?_⟩
     apply F.nx
     have ho232 := own_kept ho0_c8_1 b228
     rcases Bool.eq_false_or_eq_true (goodN (ParseInt_v0 x74) pl) with q233 | q233
     ·rw [q233]
      have hgl234 := (good_of q233).len
      refine Fq (.bool false) (r_not (b := true) rfl ek rfl) ?_
      refine Fq (.bool false) (r_pick (b := false) rfl ek ek) ?_
      refine Fv (.bool false) ?_
      refine Fq (.agg #[.int .i64 (ParseInt_v0 x74), .slice A0_c8_1 n0_c8_1 c0_c8_1]) (r_load2 rfl ek kk kk (sgS (blk_cell (j := 0) x110 kk) onn) (sgS (blk_cell (j := 1) x110 kk) onn)) ?_
      refine Fc [.agg #[.int .i64 (ParseInt_v0 x74), .slice A0_c8_1 n0_c8_1 c0_c8_1]] (l2Text_any (ParseInt_v0 x74) A0_c8_1 n0_c8_1 c0_c8_1 pl _ (own_rd ho232) (good_small q233)) ?_
      rintro e w236 ⟨rfl, b235⟩
      have s237 := SG.of_below s230 b235
      refine ⟨_, rfl, s237, ?_⟩
      apply F.nx
      have ho239 := own_kept ho232 b235
      refine Fv (.string s) ?_
      by_cases q240 : (textN (ParseInt_v0 x74) pl) = s
      ·refine Fq (.bool false) (r_neqS (s := (textN (ParseInt_v0 x74) pl)) (r := s) rfl ek ek (by rw [decide_eq_true q240]; try rfl)) ?_
       refine Fq (.bool false) (r_pick (b := false) rfl ek ek) ?_
       apply F.es
       have x6 := Sk s237 x6 onn
       have x110 := Sk s237 x110 onn
       have c241 := (Sb c120 s237 nkk)
       apply h20
       refine wp_cond_false ek ?_
       apply wp_skip
       apply h19
       refine wk fun K21 h21 => ?_
       refine W.region_plain (row := (some b2)) [(0, false), (1, true), (2, false)] kk ?_
       have s242 := SG.self w236 (some b2)
       refine Fq (.agg #[.int .i64 (ParseInt_v0 x74), .slice A0_c8_1 n0_c8_1 c0_c8_1]) (r_load2 rfl ek kk kk (sgS (blk_cell (j := 0) x110 kk) (fun e9 => ne102 (Option.some.inj e9).symm)) (sgS (blk_cell (j := 1) x110 kk) (fun e9 => ne102 (Option.some.inj e9).symm))) ?_
       refine W.ss (v := .agg #[.int .i64 (ParseInt_v0 x74), .slice A0_c8_1 n0_c8_1 c0_c8_1]) (j := 0) (news := [.int .i64 (ParseInt_v0 x74), .slice A0_c8_1 n0_c8_1 c0_c8_1]) (cs' := #[.int .i64 (ParseInt_v0 x74), .slice A0_c8_1 n0_c8_1 c0_c8_1]) s242 rfl kk rfl rfl kk kk x6 kk kk (by simp) kk kk (.inl rfl) (fun w243 g244 x245 s246 => ?_)
       have ho248 := own_grown ho239 g244 (fun j e1 e2 => by cases e2; exact nb0_c8_1_b2 e1.symm)
       refine Fa (.bool true) ?_
       apply F.es
       have c249 := (Sb c241 s246 (fun kq e => by cases e; exact lo8))
       apply h21
       refine wp_ret ?_
       try simp only [Exit.then]
       refine retCT (x := .bool true) rfl kk kk kk kk x245 ?_
       have hpn := pn_yes q233 q240 (fun m ps h1 h2 => by have h9 := ora_end hor (by omega) m ps h1 h2; exact ⟨h9.1, h9.2.2⟩)
       exact fin_net ho248 hpn.2.2.symm hpn.2.1.symm hpn.1.symm c249
      refine Fq (.bool true) (r_neqS (s := (textN (ParseInt_v0 x74) pl)) (r := s) rfl ek ek (by rw [decide_eq_false q240]; try rfl)) ?_
      refine Fq (.bool true) (r_pick (b := false) rfl ek ek) ?_
      apply F.es
      have x6 := Sk s237 x6 onn
      have c250 := (Sb c120 s237 nkk)
      apply h20
      as_aux_lemma =>
       refine wp_cond_true ek ?_
       refine wk fun K22 h22 => ?_
       refine W.region_plain (row := (some b2)) [(0, false), (1, true), (2, false)] kk ?_
       have s251 := SG.self w236 (some b2)
       refine Fq (.agg #[.int .i64 0, .slice none 0 0]) (r_build rfl (vs := []) kk kk) ?_
       refine W.ss (v := .agg #[.int .i64 0, .slice none 0 0]) (j := 0) (news := [.int .i64 0, .slice none 0 0]) (cs' := #[.int .i64 0, .slice none 0 0]) s251 rfl kk rfl rfl kk kk x6 kk kk (by simp) kk kk (.inl rfl) (fun w252 g253 x254 s255 => ?_)
       refine Fa (.bool false) ?_
       apply F.es
       have c258 := (Sb c250 s255 (fun kq e => by cases e; exact lo8))
       apply h22
       refine wp_ret ?_
       try simp only [Exit.then]
       refine retCT (x := .bool false) rfl kk kk kk kk x254 ?_
       have hpn := pn_no (s := s) (fun m ps h1 h2 => by have h9 := ora_end hor (by omega) m ps h1 h2; exact q240 (by rw [h9.1, h9.2.2]; exact h2))
       exact fin_net (zs := []) (World.ownsRow_nil _ _ _ _) hpn.2.2.symm hpn.2.1.symm hpn.1.symm c258
     rw [q233]
     refine Fq (.bool true) (r_not (b := false) rfl ek rfl) ?_
     refine Fq (.bool true) (r_pick (b := false) rfl ek ek) ?_
     refine Fv (.bool true) ?_
     refine Fs s230 ?_
     refine Fs s230 ?_
     refine Fs s230 ?_
     refine Fs s230 ?_
     refine Fq (.bool true) (r_pick (b := true) rfl ek ek) ?_
     apply F.es
     have x6 := Sk s230 x6 onn
     have c259 := (Sb c120 s230 nkk)
     apply h20
     refine wp_cond_true ek ?_
     refine wk fun K23 h23 => ?_
     refine W.region_plain (row := (some b2)) [(0, false), (1, true), (2, false)] kk ?_
     have s260 := SG.self w229 (some b2)
     refine Fq (.agg #[.int .i64 0, .slice none 0 0]) (r_build rfl (vs := []) kk kk) ?_
     refine W.ss (v := .agg #[.int .i64 0, .slice none 0 0]) (j := 0) (news := [.int .i64 0, .slice none 0 0]) (cs' := #[.int .i64 0, .slice none 0 0]) s260 rfl kk rfl rfl kk kk x6 kk kk (by simp) kk kk (.inl rfl) (fun w261 g262 x263 s264 => ?_)
     refine Fa (.bool false) ?_
     apply F.es
     have c267 := (Sb c259 s264 (fun kq e => by cases e; exact lo8))
     apply h23
     refine wp_ret ?_
     try simp only [Exit.then]
     refine retCT (x := .bool false) rfl kk kk kk kk x263 ?_
     have hpn := pn_no (s := s) (fun m ps h1 h2 => by have h9 := ora_end hor (by omega) m ps h1 h2; have h8 := q233; rw [h9.1, h9.2.2, h1] at h8; cases h8)
     exact fin_net (zs := []) (World.ownsRow_nil _ _ _ _) hpn.2.2.symm hpn.2.1.symm hpn.1.symm c267
    rw [q227]
    refine Fq (.bool true) (r_not (b := false) rfl ek rfl) ?_
    refine Fv (.bool true) ?_
    refine Fs s226 ?_
    refine Fs s226 ?_
    refine Fs s226 ?_
    refine Fq (.bool true) (r_pick (b := true) rfl ek ek) ?_
    refine Fv (.bool true) ?_
    refine Fs s226 ?_
    refine Fs s226 ?_
    refine Fs s226 ?_
    refine Fs s226 ?_
    refine Fq (.bool true) (r_pick (b := true) rfl ek ek) ?_
    apply F.es
    have x6 := Sk s226 x6 onn
    have c268 := (Sb c120 s226 nkk)
    apply h20
    as_aux_lemma =>
     refine wp_cond_true ek ?_
     refine wk fun K24 h24 => ?_
     refine W.region_plain (row := (some b2)) [(0, false), (1, true), (2, false)] kk ?_
     have s269 := SG.self wl0 (some b2)
     refine Fq (.agg #[.int .i64 0, .slice none 0 0]) (r_build rfl (vs := []) kk kk) ?_
     refine W.ss (v := .agg #[.int .i64 0, .slice none 0 0]) (j := 0) (news := [.int .i64 0, .slice none 0 0]) (cs' := #[.int .i64 0, .slice none 0 0]) s269 rfl kk rfl rfl kk kk x6 kk kk (by simp) kk kk (.inl rfl) (fun w270 g271 x272 s273 => ?_)
     refine Fa (.bool false) ?_
     apply F.es
     have c276 := (Sb c268 s273 (fun kq e => by cases e; exact lo8))
     apply h24
     refine wp_ret ?_
     try simp only [Exit.then]
     refine retCT (x := .bool false) rfl kk kk kk kk x272 ?_
     have hpn := pn_no (s := s) (fun m ps h1 h2 => by have h9 := ora_end hor (by omega) m ps h1 h2; have h8 := h9.2.1.symm.trans q227; cases h8)
     exact fin_net (zs := []) (World.ownsRow_nil _ _ _ _) hpn.2.2.symm hpn.2.1.symm hpn.1.symm c276
set_option maxRecDepth 100000 in
set_option maxHeartbeats 1000000 in
theorem ParseNetwork_spec (s : ByteArray) (w : World) (hs : s.size ≤ 1048576) :
    Calls Tryd.prog 6 #[.string s] w fun e w' => ∃ A' d, e = .returned (.tuple #[.agg #[.int .i64 (ParseNetwork_v0m s), .slice A' (ParseNetwork_v0 s).length d], .bool (ParseNetwork_v1 s)]) ∧ Rd w' 4 A' (ParseNetwork_v0 s).length (pipesV (ParseNetwork_v0 s)) ∧ Below w.heap.size w w' := by
 go_enter Tryd.func6, Tryd.ntmps6
 refine F.begin 8 [(0, .string s)] (fun U0 => ?_)
 refine wk fun K1 h1 => ?_
 refine W.region_plain (row := none) [(0, true), (1, false)] kk ?_
 have s1 := SG.self w none
 refine W.sn (fun b => .pointer (some ⟨b, 0, none⟩)) #[.int .i64 0, .slice none 0 0] 24 s1 rfl kk rfl (fun _ => by kernel_rfl) (fun b2 w3 hb4 k5 x6 s7 => ?_)
 apply F.nx
 have lo8 : w.heap.size ≤ b2 := Nl ((Sb (Below.refl _ _) s1 nkk)).size (Nat.le_of_eq hb4)
 refine Fa (.bool false) ?_
 apply F.es
 have c9 := (Sb (Below.refl _ _) s7 nkk)
 apply h1
 refine wk fun K2 h2 => ?_
 refine W.region_plain (row := (some b2)) [(0, false), (1, true), (2, false), (3, false), (4, true), (5, false)] kk ?_
 have s10 := SG.self w3 (some b2)
 refine Fv (.string s) ?_
 have lb17 := (blk_lt x6)
 have z15 := ((Sb c9 s10 (fun kq e => by cases e; exact lo8))).size
 refine Fc [.string s] (l2Parse_any s _ hs) ?_
 rintro e w19 ⟨A11, d12, rfl, ho13, b18⟩
 have s20 := SG.of_below s10 b18
 refine ⟨_, rfl, s20, ?_⟩
 apply F.nx
 have x6 := (b18.block _ (blk_lt x6)).trans x6
 have ho14 := own_base (base' := w.heap.size) ho13 z15
 have nb21 : Nb b2 (.slice A11 ((ParseNetwork_v0 s).length) d12) := nb_lo ho13 lb17
 refine Fq (.agg #[.int .i64 (ParseNetwork_v0m s), .slice A11 ((ParseNetwork_v0 s).length) d12]) (r_extract (vs := #[.agg #[.int .i64 (ParseNetwork_v0m s), .slice A11 ((ParseNetwork_v0 s).length) d12], .bool (ParseNetwork_v1 s)]) rfl ek kk) ?_
 refine Fq (.bool (ParseNetwork_v1 s)) (r_extract (vs := #[.agg #[.int .i64 (ParseNetwork_v0m s), .slice A11 ((ParseNetwork_v0 s).length) d12], .bool (ParseNetwork_v1 s)]) rfl ek kk) ?_
 refine W.ss (v := .agg #[.int .i64 (ParseNetwork_v0m s), .slice A11 ((ParseNetwork_v0 s).length) d12]) (j := 0) (news := [.int .i64 (ParseNetwork_v0m s), .slice A11 ((ParseNetwork_v0 s).length) d12]) (cs' := #[.int .i64 (ParseNetwork_v0m s), .slice A11 ((ParseNetwork_v0 s).length) d12]) s20 rfl kk rfl rfl kk kk x6 kk kk (by simp) kk kk (.inl rfl) (fun w22 g23 x24 s25 => ?_)
 have ho26 := own_grown ho14 g23 (fun j e1 e2 => by cases e2; exact nb21 e1.symm)
 refine Fa (.bool (ParseNetwork_v1 s)) ?_
 apply F.es
 have c27 := (Sb c9 s25 (fun kq e => by cases e; exact lo8))
 apply h2
 refine wp_ret ?_
 try simp only [Exit.then]
 refine retCT (x := .bool (ParseNetwork_v1 s)) rfl kk kk kk kk x24 ?_
 exact ⟨_, _, rfl, (own_rd ho26), c27⟩
end Go.Proofs.YtdlcldaogcbnlaaDoor
namespace Go.Proofs.YtdlcldaogcbnlaaDoor
open Go.RowKit
set_option linter.unusedVariables false
theorem index_app {c : UInt8} {y : List UInt8} : ∀ x : List UInt8, c ∉ x → Lib.indexByte (x ++ c :: y) c = ((x.length : Nat) : Int)
  | [], _ => by simp [Lib.indexByte]
  | b :: x, h => by
    have hb : ¬ b = c := fun e => h (by rw [e]; exact List.mem_cons_self ..)
    have ih := index_app (y := y) x (fun e => h (List.mem_cons_of_mem _ e))
    rw [List.cons_append]
    unfold Lib.indexByte
    rw [ih, if_neg (by simpa using hb), if_neg (by simp), List.length_cons]
    omega
theorem splitK_C (c : UInt8) : ∀ (n : Nat) (l : List UInt8), l.length ≤ n → Lib.splitK [c] 0 (l.count c) l = splitC c l := by
  intro n
  induction n with
  | zero =>
    intro l h
    obtain rfl : l = [] := List.length_eq_zero_iff.1 (by omega)
    rfl
  | succ n ih =>
    intro l h
    by_cases hm : c ∈ l
    · obtain ⟨x, y, rfl, hx⟩ := List.eq_append_cons_of_mem hm
      have hc : (x ++ c :: y).count c = y.count c + 1 := by
        rw [List.count_append, List.count_eq_zero_of_not_mem hx, List.count_cons_self]; omega
      rw [hc, splitC_app hx, Lib.splitK, Lib.index_one, index_app x hx]
      rw [if_neg (by simp)]
      rw [List.length_append, List.length_cons] at h
      have e : (((x.length : Nat) : Int)).toNat = x.length := by omega
      rw [e, Nat.add_zero, List.take_left]
      have e2 : (x ++ c :: y).drop (x.length + [c].length) = y := by rw [← List.drop_drop, List.drop_left]; rfl
      rw [e2, ih y (by omega)]
    · rw [List.count_eq_zero_of_not_mem hm, splitC_one hm]; rfl
theorem splitB_L (s : ByteArray) {c : Nat} (hc : c < 256) : Lib.splitB ⟨#[UInt8.ofNat c]⟩ 0 (Lib.countB s ⟨#[UInt8.ofNat c]⟩) s = splitL s c := by
  have h := Lib.splitB_data ⟨#[UInt8.ofNat c]⟩ 0 (Lib.countB s ⟨#[UInt8.ofNat c]⟩) s
  have e : Lib.countB s ⟨#[UInt8.ofNat c]⟩ = s.data.toList.count (UInt8.ofNat c) := Lib.count_one (UInt8.ofNat c) s.data.toList
  rw [e] at h ⊢
  rw [show ((⟨#[UInt8.ofNat c]⟩ : ByteArray).data.toList) = [UInt8.ofNat c] from rfl, splitK_C _ _ _ (Nat.le_refl _)] at h
  rw [splitL_splitC s hc, ← h, List.map_map]
  rw [show (ofL ∘ fun x : ByteArray => x.data.toList) = id from funext ofL_self, List.map_id]
theorem split_lib (s : ByteArray) (w : World) (hs : s.size ≤ 1048576) (hmax : MaxIs w) :
    Calls Tryd.prog 38 #[.string s, .string (⟨#[10]⟩ : ByteArray)] w fun e w' => ∃ A' n' c', e = .returned (.slice A' n' c') ∧ w'.ownsRow w.heap.size 9 1 (.slice A' n' c') n' (strsV (splitL s 10)) ∧ Below w.heap.size w w' := by
  obtain ⟨m, hm⟩ := hmax
  refine (Tryd.strings_Split s ⟨#[10]⟩ m w (by omega) hm (by decide)).mono fun e w' ⟨h, hw⟩ => ⟨_, _, _, h, ?_, by rw [hw]; exact below_a1 _ _⟩
  have hB : Lib.splitB (⟨#[10]⟩ : ByteArray) 0 (Lib.countB s (⟨#[10]⟩ : ByteArray)) s = splitL s 10 := splitB_L s (c := 10) (by omega)
  have hl := Lib.splitB_all (⟨#[10]⟩ : ByteArray) (by decide) 0 _ s rfl
  rw [hB] at hl
  have hle := splitL_len s 10
  rw [hw, hB]
  have hx := heap_alloc_new w (.cells ((splitL s 10).map Value.string).toArray 9 (0, 0))
  have ho := own_blk (base := w.heap.size) (size := 1) (n := Lib.countB s (⟨#[10]⟩ : ByteArray) + 1) hx (Nat.le_refl _) (by simp [hl]) (by omega)
  simpa [strsV] using ho
end Go.Proofs.YtdlcldaogcbnlaaDoor
