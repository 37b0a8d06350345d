/- slices.Delete at pipes: one element out of a row of the call's own. -/
import Derived.Test.YtdlcldaogcbnlaaBlkOps
import Derived.Test.YtdlcldaogcbnlaaNetC
import Derived.Test.YtdlcldaogcbnlaaFr
namespace Go.Proofs.Ytdlcldaogcbnlaa
open Go.RowKit
set_option linter.unusedVariables false
set_option linter.unusedSimpArgs false

theorem pipesV_app (xs ys : List Pp) : pipesV (xs ++ ys) = pipesV xs ++ pipesV ys := by simp [pipesV]
theorem pipesV_take (ps : List Pp) : ∀ k, pipesV (ps.take k) = (pipesV ps).take (k * 4) := by
  induction ps with
  | nil => intro k; simp [pipesV]
  | cons p ps ih =>
    intro k
    cases k with
    | zero => simp [pipesV]
    | succ k =>
      have e : pipesV (p :: ps) = p.vals ++ pipesV ps := by simp [pipesV]
      rw [List.take_succ_cons, show pipesV (p :: ps.take k) = p.vals ++ pipesV (ps.take k) by simp [pipesV], e, ih k, show (k + 1) * 4 = p.vals.length + k * 4 by simp [Pp.vals]; omega, List.take_length_add_append]
theorem pipesV_drop (ps : List Pp) : ∀ k, pipesV (ps.drop k) = (pipesV ps).drop (k * 4) := by
  induction ps with
  | nil => intro k; simp [pipesV]
  | cons p ps ih =>
    intro k
    cases k with
    | zero => simp [pipesV]
    | succ k =>
      have e : pipesV (p :: ps) = p.vals ++ pipesV ps := by simp [pipesV]
      rw [List.drop_succ_cons, e, ih k, show (k + 1) * 4 = p.vals.length + k * 4 by simp [Pp.vals]; omega, List.drop_length_add_append]
/-- What a block holds from an element on. -/
theorem blk_from {w : World} {g c : Nat} {cur : Array Value} {E : TypeId} {ps : List Pp} {n k : Nat} (hg : w.heap[g]? = some (.cells cur E (0, 0))) (ht : cur.toList.take (n * 4) = pipesV ps) (hk : k ≤ n) (hl : ps.length = n) (hnc : n ≤ c) :
    ∃ ad : Addr, sFrom (some ⟨g, 0, none⟩) c k 4 = some ad ∧ ∀ j u, (pipesV (ps.drop k))[j]? = some u → w.cell? (ad.add j) = some u := by
  by_cases h : c = k
  · refine ⟨⟨g, 0, none⟩, by unfold sFrom; rw [if_pos h], fun j u hu => ?_⟩
    have : ps.drop k = [] := List.drop_eq_nil_of_le (by omega)
    rw [this] at hu; simp [pipesV] at hu
  · refine ⟨⟨g, k * 4, none⟩, by unfold sFrom; rw [if_neg h]; show some (Addr.add ⟨g, 0, none⟩ (k * 4)) = _; rw [Addr.add_lit, Nat.zero_add], fun j u hu => ?_⟩
    rw [pipesV_drop, List.getElem?_drop, ← ht, List.getElem?_take] at hu
    split at hu
    · simp only [Addr.add_lit, World.cell?, hg]
      simpa using hu
    · cases hu
/-- The cells behind a Delete's append, its first ones. -/
theorem del_cells {cur : Array Value} {ps : List Pp} {n i c : Nat} (hs : cur.size = c * 4) (hnc : n ≤ c) (ht : cur.toList.take (n * 4) = pipesV ps) (hl : ps.length = n) (hi : i < n) :
    ((cur.toList.take (i * 4) ++ pipesV (ps.drop (i + 1)) ++ cur.toList.drop (i * 4 + (pipesV (ps.drop (i + 1))).length))).take ((n - 1) * 4) = pipesV (ps.eraseIdx i) := by
  have hd : (pipesV (ps.drop (i + 1))).length = (n - 1 - i) * 4 := by rw [pipesV_len, List.length_drop, hl]; omega
  have h1 : cur.toList.take (i * 4) = pipesV (ps.take i) := by
    rw [pipesV_take, ← ht, List.take_take, Nat.min_eq_left (by omega)]
  have hlt : (pipesV (ps.take i)).length = i * 4 := by rw [pipesV_len, List.length_take, hl]; omega
  rw [h1, List.eraseIdx_eq_take_drop_succ, pipesV_app]
  exact List.take_left' (by rw [List.length_append, hlt, hd]; omega)

set_option maxRecDepth 100000 in
set_option maxHeartbeats 8000000 in
theorem DeleteP_any (A : Option Addr) (n c : Nat) (ps : List Pp) (i base : Nat) (z1 z2 : Int) (w : World) (how : w.ownsRow base 51 4 (.slice A n c) n (pipesV ps)) (hi : i < n) (hn : n ≤ 1000000) (e1 : z1 = ((i : Nat) : Int)) (e2 : z2 = ((i + 1 : Nat) : Int)) :
    Calls Try.prog 57 #[.slice A n c, .int .i64 z1, .int .i64 z2] w fun e w' => e = .returned (.slice A (n - 1) c) ∧ w'.ownsRow base 51 4 (.slice A (n - 1) c) (n - 1) (pipesV (ps.eraseIdx i)) ∧ w.grownBy w' (Value.slice A n c).ownBlock := by
  have hl := rd_pipes_len (own_rd how)
  subst e1 e2
  obtain ⟨g, cur, rfl, hb, hh, hnc, hcm, hcs, hct⟩ := own_open how (by omega)
  have hown : (Value.slice (some ⟨g, 0, none⟩) n c).ownBlock = some g := rfl
  go_enter Try.func57, Try.ntmps57
  refine wp_seq_k (fun K1 h1 => ?_)
  refine W.region_quiet [(0, false)] (by kernel_rfl) ?_
  refine W.as (v := .slice none 0 0) (h := ?_)
  refine W.endF 33 [(0, .slice (some ⟨g, 0, none⟩) n c), (1, .int .i64 ((i : Nat) : Int)), (2, .int .i64 ((i + 1 : Nat) : Int)), (6, .slice none 0 0)] (fun U1 => ?_)
  refine h1 _ _ ?_
  refine wp_seq_k (fun K2 h2 => ?_)
  refine W.region_quiet [(0, false), (1, false), (2, false), (3, false), (4, false), (5, false)] (by kernel_rfl) ?_
  refine F.mv (v := .slice (some ⟨g, 0, none⟩) n c) (h := ?_)
  refine F.mv (v := .int .i64 ((i : Nat) : Int)) (h := ?_)
  refine F.mv (v := .int .i64 ((i + 1 : Nat) : Int)) (h := ?_)
  refine F.mv (v := .slice (some ⟨g, 0, none⟩) n c) (h := ?_)
  refine F.q (v := .int .i64 ((n : Nat) : Int)) (hr := (r_len (A := (some ⟨g, 0, none⟩)) (n := n) (c := c) rfl (ev_any (by kernel_rfl)) (by kernel_rfl))) (h := ?_)
  refine F.q (v := .slice (sFrom (some ⟨g, 0, none⟩) n i 4) (i + 1 - i) (n - i)) (hr := (r_slice3 (A := (some ⟨g, 0, none⟩)) (n := n) (c := c) (lo := i) (hi := i + 1) (mx := n) (size := 4) rfl (ev_any (by kernel_rfl)) (ev_any (by kernel_rfl)) (ev_any (by kernel_rfl)) (ev_any (by kernel_rfl)) (by kernel_rfl) (by omega) (by omega) (by omega))) (h := ?_)
  refine F.endF [(0, .slice (some ⟨g, 0, none⟩) n c), (1, .int .i64 ((i : Nat) : Int)), (2, .int .i64 ((i + 1 : Nat) : Int)), (6, .slice none 0 0)] (fun U2 => ?_)
  refine h2 _ _ ?_
  refine wp_seq_k (fun K3 h3 => ?_)
  refine wp_seq_k (fun K4 h4 => ?_)
  refine W.region_quiet [(0, false), (1, false), (2, false)] (by kernel_rfl) ?_
  refine F.mv (v := .int .i64 ((i : Nat) : Int)) (h := ?_)
  refine F.mv (v := .int .i64 ((i + 1 : Nat) : Int)) (h := ?_)
  refine F.q (v := .bool false) (hr := (r_eql (m := ((i : Nat) : Int)) (n := ((i + 1 : Nat) : Int)) rfl (ev_any (by kernel_rfl)) (ev_any (by kernel_rfl)) (decide_eq_false (by omega)))) (h := ?_)
  refine F.endF [(0, .slice (some ⟨g, 0, none⟩) n c), (1, .int .i64 ((i : Nat) : Int)), (2, .int .i64 ((i + 1 : Nat) : Int)), (6, .slice none 0 0), (16, .bool false)] (fun U3 => ?_)
  refine h4 _ _ ?_
  refine wp_cond_false (by kernel_rfl) ?_
  refine wp_skip ?_
  refine h3 _ _ ?_
  refine wp_seq_k (fun K5 h5 => ?_)
  refine W.region_quiet [(0, false), (1, false), (2, false)] (by kernel_rfl) ?_
  refine F.mv (v := .slice (some ⟨g, 0, none⟩) n c) (h := ?_)
  refine F.q (v := .int .i64 ((n : Nat) : Int)) (hr := (r_len (A := (some ⟨g, 0, none⟩)) (n := n) (c := c) rfl (ev_any (by kernel_rfl)) (by kernel_rfl))) (h := ?_)
  refine F.as (v := .int .i64 ((n : Nat) : Int)) (h := ?_)
  refine F.endF [(0, .slice (some ⟨g, 0, none⟩) n c), (1, .int .i64 ((i : Nat) : Int)), (2, .int .i64 ((i + 1 : Nat) : Int)), (6, .slice none 0 0), (7, .int .i64 ((n : Nat) : Int)), (16, .bool false)] (fun U4 => ?_)
  refine h5 _ _ ?_
  refine wp_seq_k (fun K6 h6 => ?_)
  refine W.region_sch (row := (Value.ownBlock (.slice (some ⟨g, 0, none⟩) n c))) (Sch.of [(0, false), (1, false), (2, false), (3, false), (4, false), (5, false), (6, true), (7, false)]) (by kernel_rfl) (by kernel_rfl) (fun _ d _ _ _ h => by cases d <;> exact h) (by kernel_rfl) (fun w5 e6 s7 => ?_)
  have ho8 := own_heap how e6
  refine F.mv (v := .slice (some ⟨g, 0, none⟩) n c) (h := ?_)
  refine F.mv (v := .int .i64 ((i : Nat) : Int)) (h := ?_)
  refine F.q (v := .slice (some ⟨g, 0, none⟩) i c) (hr := (r_sliceTo (A := (some ⟨g, 0, none⟩)) (n := n) (c := c) (k := i) (size := 4) rfl (ev_any (by kernel_rfl)) (ev_any (by kernel_rfl)) (by kernel_rfl) (by omega))) (h := ?_)
  refine F.mv (v := .slice (some ⟨g, 0, none⟩) n c) (h := ?_)
  refine F.mv (v := .int .i64 ((i + 1 : Nat) : Int)) (h := ?_)
  refine F.q (v := .slice (sFrom (some ⟨g, 0, none⟩) c (i + 1) 4) (n - (i + 1)) (c - (i + 1))) (hr := (r_sliceFrom (A := (some ⟨g, 0, none⟩)) (n := n) (c := c) (k := i + 1) (size := 4) rfl (ev_any (by kernel_rfl)) (ev_any (by kernel_rfl)) (by kernel_rfl) (by omega))) (h := ?_)
  have hh1 : w5.heap[g]? = some (.cells cur 51 (0, 0)) := heap_same e6 hh
  obtain ⟨ad, had, hsrc⟩ := blk_from (c := c) (k := i + 1) hh1 hct (by omega) hl (by omega)
  have hnl : (pipesV (ps.drop (i + 1))).length = (n - (i + 1)) * 4 := by rw [pipesV_len, List.length_drop, hl]
  obtain ⟨i0, hi0, hz0, hz1, hz2⟩ := info_parts pipeInfo
  obtain ⟨cur2, hcur2⟩ : ∃ cur2 : Array Value, cur2 = (cur.toList.take (i * 4) ++ pipesV (ps.drop (i + 1)) ++ cur.toList.drop (i * 4 + (pipesV (ps.drop (i + 1))).length)).toArray := ⟨_, rfl⟩
  have s11 := SG.of_grown s7 (grown_row (w := w5) (g := g) (cs := cur2)) (.inl rfl)
  refine W.lv (v := .slice (some ⟨g, 0, none⟩) (i + (n - (i + 1))) c) (w' := w5.setRow g cur2) rfl (by kernel_rfl) rfl (run_appendOp (x := .slice (some ⟨g, 0, none⟩) i c) (y := .slice (sFrom (some ⟨g, 0, none⟩) c (i + 1) 4) (n - (i + 1)) (c - (i + 1))) rfl (by kernel_rfl) (by kernel_rfl) (by rw [had, hcur2]; exact run_append_room_blk _ _ _ _ i0 (by kernel_rfl) hi0 g i c ad (n - (i + 1)) _ 4 _ hz1 hnl hsrc (pipes_one _) (by omega) cur _ hh1 (by rw [hnl]; omega))) s11 ?_
  refine F.nx ?_
  have hh2 : (w5.setRow g cur2).heap[g]? = some (.cells cur2 51 (0, 0)) := setRow_heap w5 g cur cur2 51 (0, 0) hh1
  have hcs2 : cur2.size = c * 4 := by rw [hcur2, List.size_toArray, List.length_append, List.length_append, List.length_take, List.length_drop, hnl, Array.length_toList, hcs]; omega
  have hct2 : cur2.toList.take ((n - 1) * 4) = pipesV (ps.eraseIdx i) := by rw [hcur2]; exact del_cells hcs (by omega) hct hl hi
  have hel : (pipesV (ps.eraseIdx i)).length = (n - 1) * 4 := by rw [pipesV_len, List.length_eraseIdx, if_pos (by omega), hl]
  have hn1 : i + (n - (i + 1)) = n - 1 := by omega
  obtain ⟨w9, hw2⟩ : ∃ w2, w2 = w5.setRow g cur2 := ⟨_, rfl⟩
  rw [← hw2] at hh2 s11 ⊢
  rw [hn1]
  refine F.as (v := .slice (some ⟨g, 0, none⟩) (n - 1) c) (h := ?_)
  refine F.endF [(0, .slice (some ⟨g, 0, none⟩) (n - 1) c), (1, .int .i64 ((i : Nat) : Int)), (2, .int .i64 ((i + 1 : Nat) : Int)), (6, .slice none 0 0), (7, .int .i64 ((n : Nat) : Int)), (16, .bool false)] (fun U12 => ?_)
  have c13 := (SG.fr (B := g) (World.grownBy.refl _ _) s11 (fun kq e => .inl (Option.some.inj e).symm))
  refine h6 _ _ ?_
  refine wp_seq_k (fun K7 h7 => ?_)
  refine W.region_plain (row := (Value.ownBlock (.slice (some ⟨g, 0, none⟩) (n - 1) c))) [(0, false), (1, false), (2, false), (3, false), (4, false), (5, true)] (by kernel_rfl) ?_
  have s14 := SG.self w9 (Value.ownBlock (.slice (some ⟨g, 0, none⟩) (n - 1) c))
  refine F.mv (v := .slice (some ⟨g, 0, none⟩) (n - 1) c) (h := ?_)
  refine F.mv (v := .slice (some ⟨g, 0, none⟩) (n - 1) c) (h := ?_)
  refine F.q (v := .int .i64 (((n - 1) : Nat) : Int)) (hr := (r_len (A := (some ⟨g, 0, none⟩)) (n := (n - 1)) (c := c) rfl (ev_any (by kernel_rfl)) (by kernel_rfl))) (h := ?_)
  refine F.mv (v := .int .i64 ((n : Nat) : Int)) (h := ?_)
  have hsf : sFrom (some ⟨g, 0, none⟩) c (n - 1) 4 = some ⟨g, (n - 1) * 4, none⟩ := by unfold sFrom; rw [if_neg (by omega)]; show some (Addr.add ⟨g, 0, none⟩ ((n - 1) * 4)) = _; rw [Addr.add_lit, Nat.zero_add]
  have hone : n - (n - 1) = 1 := by omega
  refine F.q (v := .slice (some ⟨g, (n - 1) * 4, none⟩) 1 (c - (n - 1))) (hr := (r_sliceLHe (A := (some ⟨g, 0, none⟩)) (n := n - 1) (c := c) (lo := n - 1) (hi := n) (size := 4) rfl (ev_any (by kernel_rfl)) (ev_any (by kernel_rfl)) (ev_any (by kernel_rfl)) (by kernel_rfl) (by omega) (by omega) hsf hone rfl)) (h := ?_)
  obtain ⟨cur3, hcur3⟩ : ∃ cur3 : Array Value, cur3 = (cur2.toList.take ((n - 1) * 4) ++ [Value.int .i64 0, Value.int .i64 0, Value.int .i64 0, Value.int .i64 0] ++ cur2.toList.drop ((n - 1) * 4 + ([Value.int .i64 0, Value.int .i64 0, Value.int .i64 0, Value.int .i64 0] : List Value).length)).toArray := ⟨_, rfl⟩
  have s16 := SG.of_grown s14 (grown_row (w := w9) (g := g) (cs := cur3)) (.inl rfl)
  refine W.lvn (v := .tuple #[]) (w' := w9.setRow g cur3) rfl (by kernel_rfl) rfl (run_clearOp (x := .slice (some ⟨g, (n - 1) * 4, none⟩) 1 (c - (n - 1))) rfl (by kernel_rfl) (by rw [hcur3]; exact run_clear_blk _ _ 51 _ [Value.int .i64 0, Value.int .i64 0, Value.int .i64 0, Value.int .i64 0] (.agg #[.int .i64 0, .int .i64 0, .int .i64 0, .int .i64 0]) (by kernel_rfl) (fun _ => by kernel_rfl) g ((n - 1) * 4) 1 _ (by omega) (by kernel_rfl) (by simp [Value.oneCell']) cur2 _ hh2 (by simp only [List.length_cons, List.length_nil]; omega))) s16 ?_
  have hh3 : (w9.setRow g cur3).heap[g]? = some (.cells cur3 51 (0, 0)) := setRow_heap w9 g cur2 cur3 51 (0, 0) hh2
  have hcs3 : cur3.size = c * 4 := by rw [hcur3, List.size_toArray, List.length_append, List.length_append, List.length_take, List.length_drop, Array.length_toList, hcs2]; simp only [List.length_cons, List.length_nil]; omega
  have hct3 : cur3.toList.take ((n - 1) * 4) = pipesV (ps.eraseIdx i) := by rw [hcur3]; show List.take _ (_ ++ _ ++ _) = _; rw [List.append_assoc, hct2]; exact List.take_left' hel
  obtain ⟨w15, hw3⟩ : ∃ w2, w2 = w9.setRow g cur3 := ⟨_, rfl⟩
  rw [← hw3] at hh3 s16 ⊢
  refine F.endF [(0, .slice (some ⟨g, 0, none⟩) (n - 1) c), (1, .int .i64 ((i : Nat) : Int)), (2, .int .i64 ((i + 1 : Nat) : Int)), (6, .slice none 0 0), (7, .int .i64 ((n : Nat) : Int)), (16, .bool false)] (fun U17 => ?_)
  have c18 := (SG.fr (B := g) c13 s16 (fun kq e => .inl (Option.some.inj e).symm))
  refine h7 _ _ ?_
  refine wp_seq_k (fun K8 h8 => ?_)
  refine W.region_quiet [(0, false), (1, false)] (by kernel_rfl) ?_
  refine F.mv (v := .slice (some ⟨g, 0, none⟩) (n - 1) c) (h := ?_)
  refine F.as (v := .slice (some ⟨g, 0, none⟩) (n - 1) c) (h := ?_)
  refine F.endF [(0, .slice (some ⟨g, 0, none⟩) (n - 1) c), (1, .int .i64 ((i : Nat) : Int)), (2, .int .i64 ((i + 1 : Nat) : Int)), (6, .slice (some ⟨g, 0, none⟩) (n - 1) c), (7, .int .i64 ((n : Nat) : Int)), (16, .bool false)] (fun U19 => ?_)
  refine h8 _ _ ?_
  refine wp_ret ?_
  try simp only [Exit.then]
  refine ret1 (v := .slice (some ⟨g, 0, none⟩) (n - 1) c) rfl (by kernel_rfl) ?_
  exact ⟨rfl, (own_shut hb hh3 (by omega) hcm hcs3 hct3 hel), c18⟩

end Go.Proofs.Ytdlcldaogcbnlaa
