/- Lists out of marks, and of lists: both packages. -/
import Derived.Test.YthdmbndndfiidaaSegS
import Derived.Test.YthdmbndndfiidaaSch7
namespace Go.Proofs.Ythdmbndndfiidaa
open Go.RowKit
set_option linter.unusedVariables false
set_option linter.unusedSimpArgs false

theorem nodesL_yes {E : Int → Int → Prop} {m : Nat} {a : Int} {told : Bool} (h : rb E a ((m : Int) + 1) = told) : nodesL E (m + 1) a told = nodesL E m a told ++ [((m + 1 : Nat) : Int)] := by
  rw [nodesL_succ, if_pos h]; simp
theorem nodesL_no {E : Int → Int → Prop} {m : Nat} {a : Int} {told : Bool} (h : rb E a ((m : Int) + 1) ≠ told) : nodesL E (m + 1) a told = nodesL E m a told := by
  rw [nodesL_succ, if_neg h]; simp
theorem wet_eq {E : Int → Int → Prop} {a : Int} {k : Nat} {x : Bool} (hx : (wetL E a)[k]? = some x) : x = rb E a (k : Int) := by
  have hk : k < 19 := by have := (List.getElem?_eq_some_iff.1 hx).1; rw [wetL_len] at this; exact this
  rw [wetL_at E a hk] at hx; exact (Option.some.inj hx).symm
theorem wet_eq1 {E : Int → Int → Prop} {a : Int} {m : Nat} {x : Bool} (hx : (wetL E a)[m + 1]? = some x) : rb E a ((m : Int) + 1) = x := by
  rw [wet_eq hx]; rfl
theorem wet_eq9 {E : Int → Int → Prop} {a : Int} {i : Nat} {x : Bool} (hx : (wetL E a)[9 + i]? = some x) : rb E a (9 + (i : Int)) = x := by
  rw [wet_eq hx]; exact congrArg _ (by omega)
theorem idsL_yes {E : Int → Int → Prop} {ps : List Pp} {i : Nat} {a : Int} {told : Bool} {p : Pp} (hp : ps[i]? = some p) (h : rb E a (9 + (i : Int)) = told) : idsAt ps (idxL E (i + 1) a told) = idsAt ps (idxL E i a told) ++ [p.id] := by
  rw [idxL_succ, if_pos h, idsAt_snoc hp]
theorem idsL_no {E : Int → Int → Prop} {ps : List Pp} {i : Nat} {a : Int} {told : Bool} (h : rb E a (9 + (i : Int)) ≠ told) : idsAt ps (idxL E (i + 1) a told) = idsAt ps (idxL E i a told) := by
  rw [idxL_succ, if_neg h, List.append_nil]
theorem idsAt_take {ps : List Pp} {xs : List Int} {i : Nat} {y : Int} {p : Pp} (hy : xs[i]? = some y) (hp : ps[y.toNat]? = some p) : idsAt ps (xs.take (i + 1)) = idsAt ps (xs.take i) ++ [p.id] := by
  rw [List.take_add_one, hy]; simp [idsAt, hp]
theorem nodesL_has {E : Int → Int → Prop} {m : Nat} {a b : Int} (hb : 1 ≤ b ∧ b ≤ m) : (nodesL E m a true).contains b = rb E a b := by
  rw [Bool.eq_iff_iff, List.contains_iff_mem, mem_nodesL]
  exact ⟨fun h => h.2, fun h => ⟨hb, h⟩⟩
theorem idxL_has {E : Int → Int → Prop} {n : Nat} {a b : Int} (hb : 0 ≤ b ∧ b < n) : (idxL E n a true).contains b = rb E a (9 + b) := by
  rw [Bool.eq_iff_iff, List.contains_iff_mem, mem_idxL]
  exact ⟨fun h => h.2, fun h => ⟨hb, h⟩⟩
theorem idxL_yes {E : Int → Int → Prop} {i : Nat} {a : Int} {told : Bool} (h : rb E a (9 + (i : Int)) = told) : idxL E (i + 1) a told = idxL E i a told ++ [(i : Int)] := by rw [idxL_succ, if_pos h]
theorem idxL_no {E : Int → Int → Prop} {i : Nat} {a : Int} {told : Bool} (h : rb E a (9 + (i : Int)) ≠ told) : idxL E (i + 1) a told = idxL E i a told := by rw [idxL_succ, if_neg h, List.append_nil]
theorem ne_of_not {a b : Bool} (h : a = !b) : a ≠ b := by cases b <;> simp_all

set_option maxRecDepth 100000 in
set_option maxHeartbeats 1000000 in
theorem nodesAndPipes_any (m : Int) (A : Option Addr) (n c : Nat) (ps : List Pp) (B : Nat) (told : Bool) (Er : Int → Int → Prop) (a : Int) (w : World) (ha : Rd w 4 A n (pipesV ps)) (hn : n ≤ 1048576) (hm : 1 ≤ m ∧ m ≤ 8) (hlen10 : ps.length ≤ 10) (he : Rd w 1 (some ⟨B, 0, none⟩) 19 (boolsV (wetL Er a))) :
    Calls Try.prog 68 #[.agg #[.int .i64 m, .slice A n c], .pointer (some ⟨B, 0, none⟩), .bool told] w fun e w' => ∃ A5 n5 c5 A6 n6 c6, e = .returned (.tuple #[.slice A5 n5 c5, .slice A6 n6 c6]) ∧ w'.ownsRow w.heap.size 3 1 (.slice A5 n5 c5) n5 (intsV (nodesL Er m.toNat a told)) ∧ w'.ownsRow w.heap.size 3 1 (.slice A6 n6 c6) n6 (intsV (idsAt ps (idxL Er ps.length a told))) ∧ NbR (.slice A5 n5 c5) (.slice A6 n6 c6) ∧ Below w.heap.size w w' := by
  have hl := rd_pipes_len ha
  have hle := rd_bools_len he
  go_enter Try.func68, Try.ntmps68
  refine wp_seq_k (fun K1 h1 => ?_)
  refine W.region_plain (row := none) [(0, true), (1, false), (2, false)] (by kernel_rfl) ?_
  have s1 := SG.self w none
  refine W.sn (fun b => .pointer (some ⟨b, 0, none⟩)) #[.int .i64 m, .slice A n c] 31 s1 rfl (by kernel_rfl) rfl (fun _ => by kernel_rfl) (fun b2 w3 hb4 k5 x6 s7 => ?_)
  have lo8 : w.heap.size ≤ b2 := by have := ((SG.belowR (Below.refl _ _) s1 (fun kq e => by cases e))).size; omega
  refine W.sq (v := .slice none 0 0) rfl (r_assign rfl (by kernel_rfl)) (by kernel_rfl) rfl rfl ?_
  refine W.sq (v := .slice none 0 0) rfl (r_assign rfl (by kernel_rfl)) (by kernel_rfl) rfl rfl ?_
  refine W.sch_end (l' := [.agg #[.int .i64 m, .slice A n c], .pointer (some ⟨B, 0, none⟩), .bool told, .pointer (some ⟨b2, 0, none⟩), undef, undef, .slice none 0 0, .slice none 0 0, undef, undef, undef, undef, undef, undef, undef, undef, undef, undef, undef, undef, undef, undef, undef, undef, undef, undef, undef, undef, undef, undef, undef, undef, undef, undef, undef, undef, undef, undef, undef, undef, undef, undef, undef, undef, undef, undef, undef, undef, undef, undef, undef, undef, undef, undef, undef, undef]) (by kernel_rfl) ?_
  have c9 := (SG.belowR (Below.refl _ _) s7 (fun kq e => by cases e))
  refine h1 _ _ ?_
  refine wp_seq_k (fun K2 h2 => ?_)
  refine W.region_plain (row := none) [(0, true), (1, true), (2, false), (3, false)] (by kernel_rfl) ?_
  have s10 := SG.self w3 none
  refine W.sn (fun b => .slice (some ⟨b, 0, none⟩) 0 0) #[] 3 s10 rfl (by kernel_rfl) rfl (fun _ => by kernel_rfl) (fun b11 w12 hb13 k14 x15 s16 => ?_)
  have lo17 : w.heap.size ≤ b11 := by have := ((SG.belowR c9 s10 (fun kq e => by cases e))).size; omega
  have ne18 : b2 ≠ b11 := by have := blk_lt x6; have := World.grownBy.size s10; omega
  refine W.sn (fun b => .slice (some ⟨b, 0, none⟩) 0 0) #[] 3 s16 rfl (by kernel_rfl) rfl (fun _ => by kernel_rfl) (fun b19 w20 hb21 k22 x23 s24 => ?_)
  have lo25 : w.heap.size ≤ b19 := by have := ((SG.belowR c9 s16 (fun kq e => by cases e))).size; omega
  have ne26 : b2 ≠ b19 := by have := blk_lt x6; have := World.grownBy.size s16; omega
  have ne27 : b11 ≠ b19 := by have := blk_lt x15; omega
  have x15 := (k22.block _ (blk_lt x15)).trans x15
  refine W.sq (v := .slice (some ⟨b11, 0, none⟩) 0 0) rfl (r_assign rfl (by kernel_rfl)) (by kernel_rfl) rfl rfl ?_
  refine W.sq (v := .slice (some ⟨b19, 0, none⟩) 0 0) rfl (r_assign rfl (by kernel_rfl)) (by kernel_rfl) rfl rfl ?_
  refine W.sch_end (l' := [.agg #[.int .i64 m, .slice A n c], .pointer (some ⟨B, 0, none⟩), .bool told, .pointer (some ⟨b2, 0, none⟩), undef, undef, .slice none 0 0, .slice none 0 0, .slice (some ⟨b11, 0, none⟩) 0 0, .slice (some ⟨b19, 0, none⟩) 0 0, undef, undef, undef, .slice (some ⟨b11, 0, none⟩) 0 0, .slice (some ⟨b19, 0, none⟩) 0 0, undef, undef, undef, undef, undef, undef, undef, undef, undef, undef, undef, undef, undef, undef, undef, undef, undef, undef, undef, undef, undef, undef, undef, undef, undef, undef, undef, undef, undef, undef, undef, undef, undef, undef, undef, undef, undef, undef, undef, undef, undef]) (by kernel_rfl) ?_
  have x6 := SG.blk s24 x6 (by simp)
  have c28 := (SG.belowR c9 s24 (fun kq e => by cases e))
  refine h2 _ _ ?_
  refine wp_seq_k (fun K3 h3 => ?_)
  refine wp_seq_k (fun K4 h4 => ?_)
  refine W.region_quiet [(0, false)] (by kernel_rfl) ?_
  refine W.sq (v := .int .i64 1) rfl (r_assign rfl (by kernel_rfl)) (by kernel_rfl) rfl rfl ?_
  refine W.sch_end (l' := [.agg #[.int .i64 m, .slice A n c], .pointer (some ⟨B, 0, none⟩), .bool told, .pointer (some ⟨b2, 0, none⟩), undef, undef, .slice none 0 0, .slice none 0 0, .slice (some ⟨b11, 0, none⟩) 0 0, .slice (some ⟨b19, 0, none⟩) 0 0, .int .i64 1, undef, undef, .slice (some ⟨b11, 0, none⟩) 0 0, .slice (some ⟨b19, 0, none⟩) 0 0, undef, undef, undef, undef, undef, undef, undef, undef, undef, undef, undef, undef, undef, undef, undef, undef, undef, undef, undef, undef, undef, undef, undef, undef, undef, undef, undef, undef, undef, undef, undef, undef, undef, undef, undef, undef, undef, undef, undef, undef, undef]) (by kernel_rfl) ?_
  refine h4 _ _ ?_
  refine wp_block ?_
  have ho29 := own_empty (base := w.heap.size) (size := 1) x15 lo17
  replace ho29 : World.ownsRow _ _ _ _ _ _ (intsV []) := ho29
  have nb30 : Nb b2 (.slice (some ⟨b11, 0, none⟩) 0 0) := nb_new (by have := ne18; omega)
  have nb31 : Nb b19 (.slice (some ⟨b11, 0, none⟩) 0 0) := nb_new (by have := ne27; omega)
  refine loopK (fun am0 aa0 wl0 => ∃ (j : Nat) (A0_8 : Option Addr) (n0_8 : Nat) (c0_8 : Nat) (U0 : Nat → Value), aa0 = ⟨[.agg #[.int .i64 m, .slice A n c], .pointer (some ⟨B, 0, none⟩), .bool told, .pointer (some ⟨b2, 0, none⟩), undef, undef, .slice none 0 0, .slice none 0 0, .slice A0_8 n0_8 c0_8, .slice (some ⟨b19, 0, none⟩) 0 0, .int .i64 ((j + 1 : Nat) : Int), undef, undef, .slice (some ⟨b11, 0, none⟩) 0 0, .slice (some ⟨b19, 0, none⟩) 0 0, U0 15, U0 16, U0 17, U0 18, U0 19, U0 20, U0 21, U0 22, U0 23, U0 24, U0 25, U0 26, U0 27, U0 28, U0 29, U0 30, U0 31, undef, undef, undef, undef, undef, undef, undef, undef, undef, undef, undef, undef, undef, undef, undef, undef, undef, undef, undef, undef, undef, undef, undef, undef].toArray, []⟩ ∧ (am0 = m.toNat - j) ∧ (j ≤ m.toNat) ∧ (n0_8 ≤ j) ∧ (wl0.heap[b2]? = some (.cells #[.int .i64 m, .slice A n c] 31 (0, 0))) ∧ (wl0.heap[b19]? = some (.cells #[] 3 (0, 0))) ∧ (wl0.ownsRow w.heap.size 3 1 (.slice A0_8 n0_8 c0_8) n0_8 (intsV (nodesL Er j a told))) ∧ (Nb b2 (.slice A0_8 n0_8 c0_8)) ∧ (Nb b19 (.slice A0_8 n0_8 c0_8)) ∧ (Below w.heap.size w wl0)) (m.toNat - 0) ?_ ?_
  · exact ⟨0, (some ⟨b11, 0, none⟩), 0, 0, (fun iU9 => [.agg #[.int .i64 m, .slice A n c], .pointer (some ⟨B, 0, none⟩), .bool told, .pointer (some ⟨b2, 0, none⟩), undef, undef, .slice none 0 0, .slice none 0 0, .slice (some ⟨b11, 0, none⟩) 0 0, .slice (some ⟨b19, 0, none⟩) 0 0, .int .i64 1, undef, undef, .slice (some ⟨b11, 0, none⟩) 0 0, .slice (some ⟨b19, 0, none⟩) 0 0, undef, undef, undef, undef, undef, undef, undef, undef, undef, undef, undef, undef, undef, undef, undef, undef, undef, undef, undef, undef, undef, undef, undef, undef, undef, undef, undef, undef, undef, undef, undef, undef, undef, undef, undef, undef, undef, undef, undef, undef, undef].getD iU9 undef), (by kernel_rfl), rfl, (Nat.zero_le _), (Nat.zero_le _), x6, x23, ho29, nb30, nb31, c28⟩
  rintro am0 aa0 wl0 K5 h5 ⟨j, A0_8, n0_8, c0_8, U0, rfl, rfl, hj, hb8, x6, x23, ho0_8, nb0_8_b2, nb0_8_b19, c32⟩
  refine wp_seq_k (fun K6 h6 => ?_)
  refine wp_seq_k (fun K7 h7 => ?_)
  refine W.region_quiet [(0, false), (1, false), (2, false), (3, false)] (by kernel_rfl) ?_
  refine W.sq (v := .int .i64 ((j + 1 : Nat) : Int)) rfl (r_move rfl (by kernel_rfl)) (by kernel_rfl) rfl rfl ?_
  refine W.sq (v := .pointer (some ⟨b2, 0, none⟩)) rfl (r_field0 rfl (by kernel_rfl) (by kernel_rfl)) (by kernel_rfl) rfl rfl ?_
  refine W.sq (v := .int .i64 m) rfl (r_load rfl (by kernel_rfl) (by kernel_rfl) (eqS (blk_cell (j := 0) x6 (by kernel_rfl)))) (by kernel_rfl) rfl rfl ?_
  by_cases q33 : (((j + 1 : Nat) : Int) : Int) ≤ (m : Int)
  · refine W.sq (v := .bool true) rfl (r_leq (m := ((j + 1 : Nat) : Int)) (n := m) rfl (by kernel_rfl) (by kernel_rfl) (decide_eq_true q33)) (by kernel_rfl) rfl rfl ?_
    refine W.sch_end (l' := [.agg #[.int .i64 m, .slice A n c], .pointer (some ⟨B, 0, none⟩), .bool told, .pointer (some ⟨b2, 0, none⟩), undef, undef, .slice none 0 0, .slice none 0 0, .slice A0_8 n0_8 c0_8, .slice (some ⟨b19, 0, none⟩) 0 0, .int .i64 ((j + 1 : Nat) : Int), undef, undef, .slice (some ⟨b11, 0, none⟩) 0 0, .slice (some ⟨b19, 0, none⟩) 0 0, .int .i64 ((j + 1 : Nat) : Int), .pointer (some ⟨b2, 0, none⟩), .int .i64 m, .bool true, (U0 19), (U0 20), (U0 21), (U0 22), (U0 23), (U0 24), (U0 25), (U0 26), (U0 27), (U0 28), (U0 29), (U0 30), (U0 31), undef, undef, undef, undef, undef, undef, undef, undef, undef, undef, undef, undef, undef, undef, undef, undef, undef, undef, undef, undef, undef, undef, undef, undef]) (by kernel_rfl) ?_
    refine h7 _ _ ?_
    refine wp_cond_true (by kernel_rfl) ?_
    refine wp_skip ?_
    refine h6 _ _ ?_
    refine wp_seq_k (fun K8 h8 => ?_)
    refine wp_block ?_
    refine wp_seq_k (fun K9 h9 => ?_)
    refine W.region_quiet [(0, false), (1, false), (2, false), (3, false), (4, false), (5, false), (6, false)] (by kernel_rfl) ?_
    refine W.sq (v := .pointer (some ⟨B, 0, none⟩)) rfl (r_move rfl (by kernel_rfl)) (by kernel_rfl) rfl rfl ?_
    refine W.sq (v := .int .i64 ((j + 1 : Nat) : Int)) rfl (r_move rfl (by kernel_rfl)) (by kernel_rfl) rfl rfl ?_
    refine W.sq (v := .pointer (some ⟨B, 0, none⟩)) rfl (r_nilCheck rfl (by kernel_rfl)) (by kernel_rfl) rfl rfl ?_
    obtain ⟨x34, hx35⟩ := get_of (zs := (wetL Er a)) (k := j + 1) (by have := hle; omega)
    obtain ⟨hb36, hc37⟩ := Rd.elBool he hx35
    refine W.sq (v := .pointer (some ⟨B, j + 1, none⟩)) rfl (r_idxA (len := 19) (k := j + 1) rfl (by kernel_rfl) (by kernel_rfl) (by kernel_rfl) (by omega)) (by kernel_rfl) rfl rfl ?_
    refine W.sq (v := .bool x34) rfl (r_load rfl (by kernel_rfl) (by kernel_rfl) (eqS (later c32 hc37))) (by kernel_rfl) rfl rfl ?_
    refine W.sq (v := .bool told) rfl (r_move rfl (by kernel_rfl)) (by kernel_rfl) rfl rfl ?_
    by_cases q38 : x34 = told
    · refine W.sq (v := .bool true) rfl (r_eqlB (m := x34) (n := told) rfl (by kernel_rfl) (by kernel_rfl) (by kernel_rfl) (beq_iff_eq.2 q38)) (by kernel_rfl) rfl rfl ?_
      refine W.sch_end (l' := [.agg #[.int .i64 m, .slice A n c], .pointer (some ⟨B, 0, none⟩), .bool told, .pointer (some ⟨b2, 0, none⟩), undef, undef, .slice none 0 0, .slice none 0 0, .slice A0_8 n0_8 c0_8, .slice (some ⟨b19, 0, none⟩) 0 0, .int .i64 ((j + 1 : Nat) : Int), undef, undef, .slice (some ⟨b11, 0, none⟩) 0 0, .slice (some ⟨b19, 0, none⟩) 0 0, .int .i64 ((j + 1 : Nat) : Int), .pointer (some ⟨b2, 0, none⟩), .int .i64 m, .bool true, (U0 19), (U0 20), .pointer (some ⟨B, 0, none⟩), .int .i64 ((j + 1 : Nat) : Int), .pointer (some ⟨B, 0, none⟩), .pointer (some ⟨B, j + 1, none⟩), .bool x34, .bool told, .bool true, (U0 28), (U0 29), (U0 30), (U0 31), undef, undef, undef, undef, undef, undef, undef, undef, undef, undef, undef, undef, undef, undef, undef, undef, undef, undef, undef, undef, undef, undef, undef, undef]) (by kernel_rfl) ?_
      refine h9 _ _ ?_
      refine wp_cond_true (by kernel_rfl) ?_
      refine W.region_plain (row := (Value.ownBlock (.slice A0_8 n0_8 c0_8))) [(0, false), (1, false), (2, true), (3, true), (4, false)] (by kernel_rfl) ?_
      have s39 := SG.self wl0 (Value.ownBlock (.slice A0_8 n0_8 c0_8))
      refine W.sq (v := .slice A0_8 n0_8 c0_8) rfl (r_move rfl (by kernel_rfl)) (by kernel_rfl) rfl rfl ?_
      refine W.sq (v := .int .i64 ((j + 1 : Nat) : Int)) rfl (r_move rfl (by kernel_rfl)) (by kernel_rfl) rfl rfl ?_
      refine W.sn (fun b => .slice (some ⟨b, 0, none⟩) 1 1) #[.int .i64 ((j + 1 : Nat) : Int)] 3 s39 rfl (by kernel_rfl) rfl (fun _ => by kernel_rfl) (fun b40 w41 hb42 k43 x44 s45 => ?_)
      have lo46 : w.heap.size ≤ b40 := by have := ((SG.belowR c32 s39 (fun kq e => (World.ownsRow.lt ho0_8 kq e).1))).size; omega
      have ne47 : b2 ≠ b40 := by have := blk_lt x6; have := World.grownBy.size s39; omega
      have ne48 : b19 ≠ b40 := by have := blk_lt x23; have := World.grownBy.size s39; omega
      have nb49 : Nb b40 (.slice A0_8 n0_8 c0_8) := nb_hi ho0_8 (Nat.le_of_eq hb42)
      have ho50 := own_kept ho0_8 k43
      refine W.sap (e := 3) (size := 1) (base := w.heap.size) (m := 1) (v := .slice A0_8 n0_8 c0_8) (c := 1) s45 rfl rfl rfl rfl (by kernel_rfl) (by kernel_rfl) (by kernel_rfl) ho50 x44 (by kernel_rfl) (by kernel_rfl) (by omega) (by omega) (by have := ((SG.belowR c32 s45 (fun kq e => (World.ownsRow.lt ho0_8 kq e).1))).size; omega) (.inl rfl) (fun g51 cap52 w53 ho54 hg55 hat56 hlt57 s58 => ?_)
      have nb59 : Nb b2 (.slice (some ⟨g51, 0, none⟩) (n0_8 + 1) cap52) := nb_app nb0_8_b2 (Nat.lt_of_lt_of_le (blk_lt x6) (World.grownBy.size s45)) hat56
      have nb60 : Nb b19 (.slice (some ⟨g51, 0, none⟩) (n0_8 + 1) cap52) := nb_app nb0_8_b19 (Nat.lt_of_lt_of_le (blk_lt x23) (World.grownBy.size s45)) hat56
      have nb61 : Nb b40 (.slice (some ⟨g51, 0, none⟩) (n0_8 + 1) cap52) := nb_app nb49 (blk_lt x44) hat56
      have x44 := (hg55.block _ (blk_lt x44) nb49).trans x44
      have ho54 := own_snoc ho54
      refine W.sq (v := .slice (some ⟨g51, 0, none⟩) (n0_8 + 1) cap52) rfl (r_assign rfl (by kernel_rfl)) (by kernel_rfl) rfl rfl ?_
      refine W.sch_end (l' := [.agg #[.int .i64 m, .slice A n c], .pointer (some ⟨B, 0, none⟩), .bool told, .pointer (some ⟨b2, 0, none⟩), undef, undef, .slice none 0 0, .slice none 0 0, .slice (some ⟨g51, 0, none⟩) (n0_8 + 1) cap52, .slice (some ⟨b19, 0, none⟩) 0 0, .int .i64 ((j + 1 : Nat) : Int), undef, undef, .slice (some ⟨b11, 0, none⟩) 0 0, .slice (some ⟨b19, 0, none⟩) 0 0, .int .i64 ((j + 1 : Nat) : Int), .pointer (some ⟨b2, 0, none⟩), .int .i64 m, .bool true, (U0 19), (U0 20), .pointer (some ⟨B, 0, none⟩), .int .i64 ((j + 1 : Nat) : Int), .pointer (some ⟨B, 0, none⟩), .pointer (some ⟨B, j + 1, none⟩), .bool x34, .bool told, .bool true, .slice A0_8 n0_8 c0_8, .int .i64 ((j + 1 : Nat) : Int), .slice (some ⟨b40, 0, none⟩) 1 1, .slice (some ⟨g51, 0, none⟩) (n0_8 + 1) cap52, undef, undef, undef, undef, undef, undef, undef, undef, undef, undef, undef, undef, undef, undef, undef, undef, undef, undef, undef, undef, undef, undef, undef, undef]) (by kernel_rfl) ?_
      have x6 := SG.blk s58 x6 nb0_8_b2
      have x23 := SG.blk s58 x23 nb0_8_b19
      have c62 := (SG.belowR c32 s58 (fun kq e => (World.ownsRow.lt ho0_8 kq e).1))
      refine h8 _ _ ?_
      refine W.region_quiet [(0, false), (1, false), (2, false)] (by kernel_rfl) ?_
      refine W.sq (v := .int .i64 ((j + 1 : Nat) : Int)) rfl (r_move rfl (by kernel_rfl)) (by kernel_rfl) rfl rfl ?_
      refine W.sq (v := .int .i64 ((j + 1 + 1 : Nat) : Int)) rfl (r_add (m := ((j + 1 : Nat) : Int)) (n := 1) (z := ((j + 1 + 1 : Nat) : Int)) rfl (by kernel_rfl) (by kernel_rfl) (by omega) (by omega)) (by kernel_rfl) rfl rfl ?_
      refine W.sq (v := .int .i64 ((j + 1 + 1 : Nat) : Int)) rfl (r_assign rfl (by kernel_rfl)) (by kernel_rfl) rfl rfl ?_
      refine W.sch_end (l' := [.agg #[.int .i64 m, .slice A n c], .pointer (some ⟨B, 0, none⟩), .bool told, .pointer (some ⟨b2, 0, none⟩), undef, undef, .slice none 0 0, .slice none 0 0, .slice (some ⟨g51, 0, none⟩) (n0_8 + 1) cap52, .slice (some ⟨b19, 0, none⟩) 0 0, .int .i64 ((j + 1 + 1 : Nat) : Int), undef, undef, .slice (some ⟨b11, 0, none⟩) 0 0, .slice (some ⟨b19, 0, none⟩) 0 0, .int .i64 ((j + 1 : Nat) : Int), .pointer (some ⟨b2, 0, none⟩), .int .i64 m, .bool true, .int .i64 ((j + 1 : Nat) : Int), .int .i64 ((j + 1 + 1 : Nat) : Int), .pointer (some ⟨B, 0, none⟩), .int .i64 ((j + 1 : Nat) : Int), .pointer (some ⟨B, 0, none⟩), .pointer (some ⟨B, j + 1, none⟩), .bool x34, .bool told, .bool true, .slice A0_8 n0_8 c0_8, .int .i64 ((j + 1 : Nat) : Int), .slice (some ⟨b40, 0, none⟩) 1 1, .slice (some ⟨g51, 0, none⟩) (n0_8 + 1) cap52, undef, undef, undef, undef, undef, undef, undef, undef, undef, undef, undef, undef, undef, undef, undef, undef, undef, undef, undef, undef, undef, undef, undef, undef]) (by kernel_rfl) ?_
      exact h5 _ _ _ (by omega : (m.toNat - (j + 1)) < _) ⟨j + 1, (some ⟨g51, 0, none⟩), (n0_8 + 1), cap52, (fun iU9 => [.agg #[.int .i64 m, .slice A n c], .pointer (some ⟨B, 0, none⟩), .bool told, .pointer (some ⟨b2, 0, none⟩), undef, undef, .slice none 0 0, .slice none 0 0, .slice (some ⟨g51, 0, none⟩) (n0_8 + 1) cap52, .slice (some ⟨b19, 0, none⟩) 0 0, .int .i64 ((j + 1 + 1 : Nat) : Int), undef, undef, .slice (some ⟨b11, 0, none⟩) 0 0, .slice (some ⟨b19, 0, none⟩) 0 0, .int .i64 ((j + 1 : Nat) : Int), .pointer (some ⟨b2, 0, none⟩), .int .i64 m, .bool true, .int .i64 ((j + 1 : Nat) : Int), .int .i64 ((j + 1 + 1 : Nat) : Int), .pointer (some ⟨B, 0, none⟩), .int .i64 ((j + 1 : Nat) : Int), .pointer (some ⟨B, 0, none⟩), .pointer (some ⟨B, j + 1, none⟩), .bool x34, .bool told, .bool true, .slice A0_8 n0_8 c0_8, .int .i64 ((j + 1 : Nat) : Int), .slice (some ⟨b40, 0, none⟩) 1 1, .slice (some ⟨g51, 0, none⟩) (n0_8 + 1) cap52, undef, undef, undef, undef, undef, undef, undef, undef, undef, undef, undef, undef, undef, undef, undef, undef, undef, undef, undef, undef, undef, undef, undef, undef].getD iU9 undef), (by kernel_rfl), rfl, (by omega), (by omega), x6, x23, (by rw [nodesL_yes (by rw [wet_eq1 hx35]; exact q38)]; exact ho54), nb59, nb60, c62⟩
    · refine W.sq (v := .bool false) rfl (r_eqlB (m := x34) (n := told) rfl (by kernel_rfl) (by kernel_rfl) (by kernel_rfl) (beq_eq_false_iff_ne.2 q38)) (by kernel_rfl) rfl rfl ?_
      refine W.sch_end (l' := [.agg #[.int .i64 m, .slice A n c], .pointer (some ⟨B, 0, none⟩), .bool told, .pointer (some ⟨b2, 0, none⟩), undef, undef, .slice none 0 0, .slice none 0 0, .slice A0_8 n0_8 c0_8, .slice (some ⟨b19, 0, none⟩) 0 0, .int .i64 ((j + 1 : Nat) : Int), undef, undef, .slice (some ⟨b11, 0, none⟩) 0 0, .slice (some ⟨b19, 0, none⟩) 0 0, .int .i64 ((j + 1 : Nat) : Int), .pointer (some ⟨b2, 0, none⟩), .int .i64 m, .bool true, (U0 19), (U0 20), .pointer (some ⟨B, 0, none⟩), .int .i64 ((j + 1 : Nat) : Int), .pointer (some ⟨B, 0, none⟩), .pointer (some ⟨B, j + 1, none⟩), .bool x34, .bool told, .bool false, (U0 28), (U0 29), (U0 30), (U0 31), undef, undef, undef, undef, undef, undef, undef, undef, undef, undef, undef, undef, undef, undef, undef, undef, undef, undef, undef, undef, undef, undef, undef, undef]) (by kernel_rfl) ?_
      refine h9 _ _ ?_
      refine wp_cond_false (by kernel_rfl) ?_
      refine wp_skip ?_
      refine h8 _ _ ?_
      refine W.region_quiet [(0, false), (1, false), (2, false)] (by kernel_rfl) ?_
      refine W.sq (v := .int .i64 ((j + 1 : Nat) : Int)) rfl (r_move rfl (by kernel_rfl)) (by kernel_rfl) rfl rfl ?_
      refine W.sq (v := .int .i64 ((j + 1 + 1 : Nat) : Int)) rfl (r_add (m := ((j + 1 : Nat) : Int)) (n := 1) (z := ((j + 1 + 1 : Nat) : Int)) rfl (by kernel_rfl) (by kernel_rfl) (by omega) (by omega)) (by kernel_rfl) rfl rfl ?_
      refine W.sq (v := .int .i64 ((j + 1 + 1 : Nat) : Int)) rfl (r_assign rfl (by kernel_rfl)) (by kernel_rfl) rfl rfl ?_
      refine W.sch_end (l' := [.agg #[.int .i64 m, .slice A n c], .pointer (some ⟨B, 0, none⟩), .bool told, .pointer (some ⟨b2, 0, none⟩), undef, undef, .slice none 0 0, .slice none 0 0, .slice A0_8 n0_8 c0_8, .slice (some ⟨b19, 0, none⟩) 0 0, .int .i64 ((j + 1 + 1 : Nat) : Int), undef, undef, .slice (some ⟨b11, 0, none⟩) 0 0, .slice (some ⟨b19, 0, none⟩) 0 0, .int .i64 ((j + 1 : Nat) : Int), .pointer (some ⟨b2, 0, none⟩), .int .i64 m, .bool true, .int .i64 ((j + 1 : Nat) : Int), .int .i64 ((j + 1 + 1 : Nat) : Int), .pointer (some ⟨B, 0, none⟩), .int .i64 ((j + 1 : Nat) : Int), .pointer (some ⟨B, 0, none⟩), .pointer (some ⟨B, j + 1, none⟩), .bool x34, .bool told, .bool false, (U0 28), (U0 29), (U0 30), (U0 31), undef, undef, undef, undef, undef, undef, undef, undef, undef, undef, undef, undef, undef, undef, undef, undef, undef, undef, undef, undef, undef, undef, undef, undef]) (by kernel_rfl) ?_
      exact h5 _ _ _ (by omega : (m.toNat - (j + 1)) < _) ⟨j + 1, A0_8, n0_8, c0_8, (fun iU9 => [.agg #[.int .i64 m, .slice A n c], .pointer (some ⟨B, 0, none⟩), .bool told, .pointer (some ⟨b2, 0, none⟩), undef, undef, .slice none 0 0, .slice none 0 0, .slice A0_8 n0_8 c0_8, .slice (some ⟨b19, 0, none⟩) 0 0, .int .i64 ((j + 1 + 1 : Nat) : Int), undef, undef, .slice (some ⟨b11, 0, none⟩) 0 0, .slice (some ⟨b19, 0, none⟩) 0 0, .int .i64 ((j + 1 : Nat) : Int), .pointer (some ⟨b2, 0, none⟩), .int .i64 m, .bool true, .int .i64 ((j + 1 : Nat) : Int), .int .i64 ((j + 1 + 1 : Nat) : Int), .pointer (some ⟨B, 0, none⟩), .int .i64 ((j + 1 : Nat) : Int), .pointer (some ⟨B, 0, none⟩), .pointer (some ⟨B, j + 1, none⟩), .bool x34, .bool told, .bool false, (U0 28), (U0 29), (U0 30), (U0 31), undef, undef, undef, undef, undef, undef, undef, undef, undef, undef, undef, undef, undef, undef, undef, undef, undef, undef, undef, undef, undef, undef, undef, undef].getD iU9 undef), (by kernel_rfl), rfl, (by omega), (by omega), x6, x23, (by rw [nodesL_no (by rw [wet_eq1 hx35]; exact q38)]; exact ho0_8), nb0_8_b2, nb0_8_b19, c32⟩
  · refine W.sq (v := .bool false) rfl (r_leq (m := ((j + 1 : Nat) : Int)) (n := m) rfl (by kernel_rfl) (by kernel_rfl) (decide_eq_false q33)) (by kernel_rfl) rfl rfl ?_
    refine W.sch_end (l' := [.agg #[.int .i64 m, .slice A n c], .pointer (some ⟨B, 0, none⟩), .bool told, .pointer (some ⟨b2, 0, none⟩), undef, undef, .slice none 0 0, .slice none 0 0, .slice A0_8 n0_8 c0_8, .slice (some ⟨b19, 0, none⟩) 0 0, .int .i64 ((j + 1 : Nat) : Int), undef, undef, .slice (some ⟨b11, 0, none⟩) 0 0, .slice (some ⟨b19, 0, none⟩) 0 0, .int .i64 ((j + 1 : Nat) : Int), .pointer (some ⟨b2, 0, none⟩), .int .i64 m, .bool false, (U0 19), (U0 20), (U0 21), (U0 22), (U0 23), (U0 24), (U0 25), (U0 26), (U0 27), (U0 28), (U0 29), (U0 30), (U0 31), undef, undef, undef, undef, undef, undef, undef, undef, undef, undef, undef, undef, undef, undef, undef, undef, undef, undef, undef, undef, undef, undef, undef, undef]) (by kernel_rfl) ?_
    refine h7 _ _ ?_
    refine wp_cond_false (by kernel_rfl) ?_
    refine wp_exit ?_
    refine h3 _ _ ?_
    refine wp_seq_k (fun K10 h10 => ?_)
    refine wp_seq_k (fun K11 h11 => ?_)
    refine W.region_quiet [(0, false), (1, false), (2, false), (3, false)] (by kernel_rfl) ?_
    refine W.sq (v := .pointer (some ⟨b2, 1, none⟩)) rfl (r_field (k := 1) rfl (by kernel_rfl) (by kernel_rfl)) (by kernel_rfl) rfl rfl ?_
    refine W.sq (v := .slice A n c) rfl (r_load rfl (by kernel_rfl) (by kernel_rfl) (eqS (blk_cell (j := 1) x6 (by kernel_rfl)))) (by kernel_rfl) rfl rfl ?_
    refine W.sq (v := .int .i64 ((n : Nat) : Int)) rfl (r_len (A := A) (n := n) (c := c) rfl (by kernel_rfl) (by kernel_rfl)) (by kernel_rfl) rfl rfl ?_
    refine W.sq (v := .int .i64 0) rfl (r_move rfl (by kernel_rfl)) (by kernel_rfl) rfl rfl ?_
    refine W.sch_end (l' := [.agg #[.int .i64 m, .slice A n c], .pointer (some ⟨B, 0, none⟩), .bool told, .pointer (some ⟨b2, 0, none⟩), undef, undef, .slice none 0 0, .slice none 0 0, .slice A0_8 n0_8 c0_8, .slice (some ⟨b19, 0, none⟩) 0 0, .int .i64 ((j + 1 : Nat) : Int), undef, undef, .slice (some ⟨b11, 0, none⟩) 0 0, .slice (some ⟨b19, 0, none⟩) 0 0, .int .i64 ((j + 1 : Nat) : Int), .pointer (some ⟨b2, 0, none⟩), .int .i64 m, .bool false, (U0 19), (U0 20), (U0 21), (U0 22), (U0 23), (U0 24), (U0 25), (U0 26), (U0 27), (U0 28), (U0 29), (U0 30), (U0 31), .pointer (some ⟨b2, 1, none⟩), .slice A n c, .int .i64 ((n : Nat) : Int), .int .i64 0, undef, undef, undef, undef, undef, undef, undef, undef, undef, undef, undef, undef, undef, undef, undef, undef, undef, undef, undef, undef]) (by kernel_rfl) ?_
    refine h11 _ _ ?_
    refine wp_block ?_
    have ho63 := own_empty (base := w.heap.size) (size := 1) x23 lo25
    replace ho63 : World.ownsRow _ _ _ _ _ _ (intsV []) := ho63
    have nr64 : NbR (.slice (some ⟨b19, 0, none⟩) 0 0) (.slice A0_8 n0_8 c0_8) := nbr_new nb0_8_b19
    have nb65 : Nb b2 (.slice (some ⟨b19, 0, none⟩) 0 0) := nb_new (by have := ne26; omega)
    refine loopK (fun am1 aa1 wl1 => ∃ (i : Nat) (A1_9 : Option Addr) (n1_9 : Nat) (c1_9 : Nat) (U1 : Nat → Value), aa1 = ⟨[.agg #[.int .i64 m, .slice A n c], .pointer (some ⟨B, 0, none⟩), .bool told, .pointer (some ⟨b2, 0, none⟩), undef, undef, .slice none 0 0, .slice none 0 0, .slice A0_8 n0_8 c0_8, .slice A1_9 n1_9 c1_9, .int .i64 ((j + 1 : Nat) : Int), U1 11, U1 12, .slice (some ⟨b11, 0, none⟩) 0 0, .slice (some ⟨b19, 0, none⟩) 0 0, .int .i64 ((j + 1 : Nat) : Int), .pointer (some ⟨b2, 0, none⟩), .int .i64 m, .bool false, (U0 19), (U0 20), (U0 21), (U0 22), (U0 23), (U0 24), (U0 25), (U0 26), (U0 27), (U0 28), (U0 29), (U0 30), (U0 31), .pointer (some ⟨b2, 1, none⟩), .slice A n c, .int .i64 ((n : Nat) : Int), .int .i64 ((i : Nat) : Int), U1 36, U1 37, U1 38, U1 39, U1 40, U1 41, U1 42, U1 43, U1 44, U1 45, U1 46, U1 47, U1 48, U1 49, U1 50, U1 51, U1 52, U1 53, undef, undef].toArray, []⟩ ∧ (am1 = n - i) ∧ (i ≤ n) ∧ (n1_9 ≤ i) ∧ (wl1.heap[b2]? = some (.cells #[.int .i64 m, .slice A n c] 31 (0, 0))) ∧ (wl1.ownsRow w.heap.size 3 1 (.slice A0_8 n0_8 c0_8) n0_8 (intsV (nodesL Er m.toNat a told))) ∧ (wl1.ownsRow w.heap.size 3 1 (.slice A1_9 n1_9 c1_9) n1_9 (intsV (idsAt ps (idxL Er i a told)))) ∧ (Nb b2 (.slice A1_9 n1_9 c1_9)) ∧ (NbR (.slice A1_9 n1_9 c1_9) (.slice A0_8 n0_8 c0_8)) ∧ (Below w.heap.size w wl1)) (n - 0) ?_ ?_
    · exact ⟨0, (some ⟨b19, 0, none⟩), 0, 0, (fun iU9 => [.agg #[.int .i64 m, .slice A n c], .pointer (some ⟨B, 0, none⟩), .bool told, .pointer (some ⟨b2, 0, none⟩), undef, undef, .slice none 0 0, .slice none 0 0, .slice A0_8 n0_8 c0_8, .slice (some ⟨b19, 0, none⟩) 0 0, .int .i64 ((j + 1 : Nat) : Int), undef, undef, .slice (some ⟨b11, 0, none⟩) 0 0, .slice (some ⟨b19, 0, none⟩) 0 0, .int .i64 ((j + 1 : Nat) : Int), .pointer (some ⟨b2, 0, none⟩), .int .i64 m, .bool false, (U0 19), (U0 20), (U0 21), (U0 22), (U0 23), (U0 24), (U0 25), (U0 26), (U0 27), (U0 28), (U0 29), (U0 30), (U0 31), .pointer (some ⟨b2, 1, none⟩), .slice A n c, .int .i64 ((n : Nat) : Int), .int .i64 0, undef, undef, undef, undef, undef, undef, undef, undef, undef, undef, undef, undef, undef, undef, undef, undef, undef, undef, undef, undef].getD iU9 undef), (by kernel_rfl), rfl, (Nat.zero_le _), (Nat.zero_le _), x6, (by rw [show m.toNat = j by omega]; exact ho0_8), ho63, nb65, nr64, c32⟩
    rintro am1 aa1 wl1 K12 h12 ⟨i, A1_9, n1_9, c1_9, U1, rfl, rfl, hi, hb9, x6, ho1_8, ho1_9, nb1_9_b2, nr1_1_0, c66⟩
    refine wp_seq_k (fun K13 h13 => ?_)
    refine W.region_quiet [(0, false)] (by kernel_rfl) ?_
    by_cases q67 : (((i : Nat) : Int) : Int) < (((n : Nat) : Int) : Int)
    · refine W.sq (v := .bool true) rfl (r_lss (m := ((i : Nat) : Int)) (n := ((n : Nat) : Int)) rfl (by kernel_rfl) (by kernel_rfl) (decide_eq_true q67)) (by kernel_rfl) rfl rfl ?_
      refine W.sch_end (l' := [.agg #[.int .i64 m, .slice A n c], .pointer (some ⟨B, 0, none⟩), .bool told, .pointer (some ⟨b2, 0, none⟩), undef, undef, .slice none 0 0, .slice none 0 0, .slice A0_8 n0_8 c0_8, .slice A1_9 n1_9 c1_9, .int .i64 ((j + 1 : Nat) : Int), (U1 11), (U1 12), .slice (some ⟨b11, 0, none⟩) 0 0, .slice (some ⟨b19, 0, none⟩) 0 0, .int .i64 ((j + 1 : Nat) : Int), .pointer (some ⟨b2, 0, none⟩), .int .i64 m, .bool false, (U0 19), (U0 20), (U0 21), (U0 22), (U0 23), (U0 24), (U0 25), (U0 26), (U0 27), (U0 28), (U0 29), (U0 30), (U0 31), .pointer (some ⟨b2, 1, none⟩), .slice A n c, .int .i64 ((n : Nat) : Int), .int .i64 ((i : Nat) : Int), .bool true, (U1 37), (U1 38), (U1 39), (U1 40), (U1 41), (U1 42), (U1 43), (U1 44), (U1 45), (U1 46), (U1 47), (U1 48), (U1 49), (U1 50), (U1 51), (U1 52), (U1 53), undef, undef]) (by kernel_rfl) ?_
      refine h13 _ _ ?_
      refine wp_seq_k (fun K14 h14 => ?_)
      refine wp_cond_true (by kernel_rfl) ?_
      refine wp_skip ?_
      refine h14 _ _ ?_
      refine wp_seq_k (fun K15 h15 => ?_)
      refine wp_block ?_
      refine wp_seq_k (fun K16 h16 => ?_)
      refine W.region_plain (row := none) [(0, false), (1, false), (2, false), (3, true), (4, false), (5, true)] (by kernel_rfl) ?_
      have s68 := SG.self wl1 none
      refine W.sq (v := .int .i64 ((i : Nat) : Int)) rfl (r_move rfl (by kernel_rfl)) (by kernel_rfl) rfl rfl ?_
      obtain ⟨x69, hx70⟩ := get_of (zs := ps) (k := i) (by have := hl; omega)
      obtain ⟨b71, o72, hA73, hb74, hc75, hc76, hc77, hc78⟩ := Rd.elPipe ha hx70
      refine W.sq (v := .pointer (some ⟨b71, o72 + i * 4, none⟩)) rfl (r_idx (n := n) (c := c) (k := i) rfl (by kernel_rfl) hA73 (by kernel_rfl) (by kernel_rfl) (by have := hl; omega)) (by kernel_rfl) rfl rfl ?_
      refine W.sq (v := .agg #[.int .i64 x69.id, .int .i64 x69.fr, .int .i64 x69.to, .int .i64 x69.sz]) rfl (r_load4 rfl (by kernel_rfl) (by kernel_rfl) (by kernel_rfl) (sgS (later c66 hc75) (by simp)) (sgS (later c66 hc76) (by simp)) (sgS (later c66 hc77) (by simp)) (sgS (later c66 hc78) (by simp))) (by kernel_rfl) rfl rfl ?_
      refine W.sn (fun b => .pointer (some ⟨b, 0, none⟩)) #[.int .i64 0, .int .i64 0, .int .i64 0, .int .i64 0] 66 s68 rfl (by kernel_rfl) rfl (fun _ => by kernel_rfl) (fun b79 w80 hb81 k82 x83 s84 => ?_)
      have lo85 : w.heap.size ≤ b79 := by have := ((SG.belowR c66 s68 (fun kq e => by cases e))).size; omega
      have ne86 : b2 ≠ b79 := by have := blk_lt x6; have := World.grownBy.size s68; omega
      have nb87 : Nb b79 (.slice A0_8 n0_8 c0_8) := nb_hi ho1_8 (Nat.le_of_eq hb81)
      have nb88 : Nb b79 (.slice A1_9 n1_9 c1_9) := nb_hi ho1_9 (Nat.le_of_eq hb81)
      have ho89 := own_kept ho1_8 k82
      have ho90 := own_kept ho1_9 k82
      refine W.sq (v := .int .i64 ((i : Nat) : Int)) rfl (r_assign rfl (by kernel_rfl)) (by kernel_rfl) rfl rfl ?_
      refine W.ss (v := .agg #[.int .i64 x69.id, .int .i64 x69.fr, .int .i64 x69.to, .int .i64 x69.sz]) (j := 0) (news := [.int .i64 x69.id, .int .i64 x69.fr, .int .i64 x69.to, .int .i64 x69.sz]) (cs' := #[.int .i64 x69.id, .int .i64 x69.fr, .int .i64 x69.to, .int .i64 x69.sz]) s84 rfl (by kernel_rfl) rfl rfl (by kernel_rfl) (by kernel_rfl) x83 (by kernel_rfl) (by kernel_rfl) (by simp) (by kernel_rfl) (by kernel_rfl) (.inr (by have := World.grownBy.size s68; have := hb81; omega)) (fun w91 g92 x93 s94 => ?_)
      have ho95 := own_grown ho89 g92 (fun j e1 e2 => by cases e2; exact nb87 e1.symm)
      have ho96 := own_grown ho90 g92 (fun j e1 e2 => by cases e2; exact nb88 e1.symm)
      refine W.sch_end (l' := [.agg #[.int .i64 m, .slice A n c], .pointer (some ⟨B, 0, none⟩), .bool told, .pointer (some ⟨b2, 0, none⟩), undef, undef, .slice none 0 0, .slice none 0 0, .slice A0_8 n0_8 c0_8, .slice A1_9 n1_9 c1_9, .int .i64 ((j + 1 : Nat) : Int), .int .i64 ((i : Nat) : Int), .pointer (some ⟨b79, 0, none⟩), .slice (some ⟨b11, 0, none⟩) 0 0, .slice (some ⟨b19, 0, none⟩) 0 0, .int .i64 ((j + 1 : Nat) : Int), .pointer (some ⟨b2, 0, none⟩), .int .i64 m, .bool false, (U0 19), (U0 20), (U0 21), (U0 22), (U0 23), (U0 24), (U0 25), (U0 26), (U0 27), (U0 28), (U0 29), (U0 30), (U0 31), .pointer (some ⟨b2, 1, none⟩), .slice A n c, .int .i64 ((n : Nat) : Int), .int .i64 ((i : Nat) : Int), .bool true, .int .i64 ((i : Nat) : Int), .pointer (some ⟨b71, o72 + i * 4, none⟩), .agg #[.int .i64 x69.id, .int .i64 x69.fr, .int .i64 x69.to, .int .i64 x69.sz], (U1 40), (U1 41), (U1 42), (U1 43), (U1 44), (U1 45), (U1 46), (U1 47), (U1 48), (U1 49), (U1 50), (U1 51), (U1 52), (U1 53), undef, undef]) (by kernel_rfl) ?_
      have x6 := SG.blk s94 x6 (by simp)
      have c97 := (SG.belowR c66 s94 (fun kq e => by cases e))
      refine h16 _ _ ?_
      refine wp_seq_k (fun K17 h17 => ?_)
      refine W.region_sch (row := none) (Sch.of [(0, false), (1, false), (3, false), (6, false), (2, true), (4, false), (5, false), (7, false)]) (by kernel_rfl) (by kernel_rfl) (fun _ d _ _ _ h => by cases d <;> exact h) (by kernel_rfl) (fun w98 e99 s100 => ?_)
      have ho101 := own_heap ho95 e99
      have ho102 := own_heap ho96 e99
      refine W.sq (v := .pointer (some ⟨B, 0, none⟩)) rfl (r_move rfl (by kernel_rfl)) (by kernel_rfl) rfl rfl ?_
      refine W.sq (v := .int .i64 ((i : Nat) : Int)) rfl (r_move rfl (by kernel_rfl)) (by kernel_rfl) rfl rfl ?_
      refine W.sq (v := .pointer (some ⟨B, 0, none⟩)) rfl (r_nilCheck rfl (by kernel_rfl)) (by kernel_rfl) rfl rfl ?_
      refine W.sq (v := .bool told) rfl (r_move rfl (by kernel_rfl)) (by kernel_rfl) rfl rfl ?_
      refine W.sc (vs := [.int .i64 ((i : Nat) : Int)]) rfl rfl (by kernel_rfl) (by kernel_rfl) (by kernel_rfl) rfl (elementN_any i _ (by omega)) ?_
      rintro e w' ⟨rfl, rfl⟩
      refine ⟨_, rfl, s100, ?_⟩
      obtain ⟨x105, hx106⟩ := get_of (zs := (wetL Er a)) (k := 9 + i) (by have := hle; omega)
      obtain ⟨hb107, hc108⟩ := Rd.elBool he hx106
      refine W.sq (v := .pointer (some ⟨B, 9 + i, none⟩)) rfl (r_idxA (len := 19) (k := 9 + i) rfl (by kernel_rfl) (by kernel_rfl) (by kernel_rfl) (by omega)) (by kernel_rfl) rfl rfl ?_
      refine W.sq (v := .bool x105) rfl (r_load rfl (by kernel_rfl) (by kernel_rfl) (sgS (later c97 hc108) (by simp))) (by kernel_rfl) rfl rfl ?_
      by_cases q109 : x105 = told
      · refine W.sq (v := .bool true) rfl (r_eqlB (m := x105) (n := told) rfl (by kernel_rfl) (by kernel_rfl) (by kernel_rfl) (beq_iff_eq.2 q109)) (by kernel_rfl) rfl rfl ?_
        refine W.sch_end (l' := [.agg #[.int .i64 m, .slice A n c], .pointer (some ⟨B, 0, none⟩), .bool told, .pointer (some ⟨b2, 0, none⟩), undef, undef, .slice none 0 0, .slice none 0 0, .slice A0_8 n0_8 c0_8, .slice A1_9 n1_9 c1_9, .int .i64 ((j + 1 : Nat) : Int), .int .i64 ((i : Nat) : Int), .pointer (some ⟨b79, 0, none⟩), .slice (some ⟨b11, 0, none⟩) 0 0, .slice (some ⟨b19, 0, none⟩) 0 0, .int .i64 ((j + 1 : Nat) : Int), .pointer (some ⟨b2, 0, none⟩), .int .i64 m, .bool false, (U0 19), (U0 20), (U0 21), (U0 22), (U0 23), (U0 24), (U0 25), (U0 26), (U0 27), (U0 28), (U0 29), (U0 30), (U0 31), .pointer (some ⟨b2, 1, none⟩), .slice A n c, .int .i64 ((n : Nat) : Int), .int .i64 ((i : Nat) : Int), .bool true, .int .i64 ((i : Nat) : Int), .pointer (some ⟨b71, o72 + i * 4, none⟩), .agg #[.int .i64 x69.id, .int .i64 x69.fr, .int .i64 x69.to, .int .i64 x69.sz], .pointer (some ⟨B, 0, none⟩), .int .i64 ((i : Nat) : Int), .int .i64 ((9 + i : Nat) : Int), .pointer (some ⟨B, 0, none⟩), .pointer (some ⟨B, 9 + i, none⟩), .bool x105, .bool told, .bool true, (U1 48), (U1 49), (U1 50), (U1 51), (U1 52), (U1 53), undef, undef]) (by kernel_rfl) ?_
        have x6 := SG.blk s100 x6 (by simp)
        have x93 := SG.blk s100 x93 (by simp)
        have c110 := (SG.belowR c97 s100 (fun kq e => by cases e))
        refine h17 _ _ ?_
        refine wp_cond_true (by kernel_rfl) ?_
        refine W.region_plain (row := (Value.ownBlock (.slice A1_9 n1_9 c1_9))) [(0, false), (1, false), (2, false), (3, true), (4, true), (5, false)] (by kernel_rfl) ?_
        have s111 := SG.self w98 (Value.ownBlock (.slice A1_9 n1_9 c1_9))
        refine W.sq (v := .slice A1_9 n1_9 c1_9) rfl (r_move rfl (by kernel_rfl)) (by kernel_rfl) rfl rfl ?_
        refine W.sq (v := .pointer (some ⟨b79, 0, none⟩)) rfl (r_field0 rfl (by kernel_rfl) (by kernel_rfl)) (by kernel_rfl) rfl rfl ?_
        refine W.sq (v := .int .i64 x69.id) rfl (r_load rfl (by kernel_rfl) (by kernel_rfl) (sgS (blk_cell (j := 0) x93 (by kernel_rfl)) nb88)) (by kernel_rfl) rfl rfl ?_
        refine W.sn (fun b => .slice (some ⟨b, 0, none⟩) 1 1) #[.int .i64 x69.id] 3 s111 rfl (by kernel_rfl) rfl (fun _ => by kernel_rfl) (fun b112 w113 hb114 k115 x116 s117 => ?_)
        have lo118 : w.heap.size ≤ b112 := by have := ((SG.belowR c110 s111 (fun kq e => (World.ownsRow.lt ho102 kq e).1))).size; omega
        have ne119 : b2 ≠ b112 := by have := blk_lt x6; have := World.grownBy.size s111; omega
        have ne120 : b79 ≠ b112 := by have := blk_lt x93; have := World.grownBy.size s111; omega
        have nb121 : Nb b112 (.slice A0_8 n0_8 c0_8) := nb_hi ho101 (Nat.le_of_eq hb114)
        have nb122 : Nb b112 (.slice A1_9 n1_9 c1_9) := nb_hi ho102 (Nat.le_of_eq hb114)
        have ho123 := own_kept ho101 k115
        have ho124 := own_kept ho102 k115
        refine W.sap (e := 3) (size := 1) (base := w.heap.size) (m := 1) (v := .slice A1_9 n1_9 c1_9) (c := 1) s117 rfl rfl rfl rfl (by kernel_rfl) (by kernel_rfl) (by kernel_rfl) ho124 x116 (by kernel_rfl) (by kernel_rfl) (by omega) (by omega) (by have := ((SG.belowR c110 s117 (fun kq e => (World.ownsRow.lt ho102 kq e).1))).size; omega) (.inl rfl) (fun g125 cap126 w127 ho128 hg129 hat130 hlt131 s132 => ?_)
        have nb133 : Nb b2 (.slice (some ⟨g125, 0, none⟩) (n1_9 + 1) cap126) := nb_app nb1_9_b2 (Nat.lt_of_lt_of_le (blk_lt x6) (World.grownBy.size s117)) hat130
        have nb134 : Nb b79 (.slice (some ⟨g125, 0, none⟩) (n1_9 + 1) cap126) := nb_app nb88 (Nat.lt_of_lt_of_le (blk_lt x93) (World.grownBy.size s117)) hat130
        have nb135 : Nb b112 (.slice (some ⟨g125, 0, none⟩) (n1_9 + 1) cap126) := nb_app nb122 (blk_lt x116) hat130
        have x116 := (hg129.block _ (blk_lt x116) nb122).trans x116
        have ho128 := own_snoc ho128
        have nr136 : NbR (.slice (some ⟨g125, 0, none⟩) (n1_9 + 1) cap126) (.slice A0_8 n0_8 c0_8) := nbr_app nr1_1_0 (fun j h => (World.ownsRow.lt ho123 j h).2) (hat3 (v := .slice A1_9 n1_9 c1_9) hat130)
        have ho137 := own_grown ho123 hg129 (NbR.symm nr1_1_0)
        refine W.sq (v := .slice (some ⟨g125, 0, none⟩) (n1_9 + 1) cap126) rfl (r_assign rfl (by kernel_rfl)) (by kernel_rfl) rfl rfl ?_
        refine W.sch_end (l' := [.agg #[.int .i64 m, .slice A n c], .pointer (some ⟨B, 0, none⟩), .bool told, .pointer (some ⟨b2, 0, none⟩), undef, undef, .slice none 0 0, .slice none 0 0, .slice A0_8 n0_8 c0_8, .slice (some ⟨g125, 0, none⟩) (n1_9 + 1) cap126, .int .i64 ((j + 1 : Nat) : Int), .int .i64 ((i : Nat) : Int), .pointer (some ⟨b79, 0, none⟩), .slice (some ⟨b11, 0, none⟩) 0 0, .slice (some ⟨b19, 0, none⟩) 0 0, .int .i64 ((j + 1 : Nat) : Int), .pointer (some ⟨b2, 0, none⟩), .int .i64 m, .bool false, (U0 19), (U0 20), (U0 21), (U0 22), (U0 23), (U0 24), (U0 25), (U0 26), (U0 27), (U0 28), (U0 29), (U0 30), (U0 31), .pointer (some ⟨b2, 1, none⟩), .slice A n c, .int .i64 ((n : Nat) : Int), .int .i64 ((i : Nat) : Int), .bool true, .int .i64 ((i : Nat) : Int), .pointer (some ⟨b71, o72 + i * 4, none⟩), .agg #[.int .i64 x69.id, .int .i64 x69.fr, .int .i64 x69.to, .int .i64 x69.sz], .pointer (some ⟨B, 0, none⟩), .int .i64 ((i : Nat) : Int), .int .i64 ((9 + i : Nat) : Int), .pointer (some ⟨B, 0, none⟩), .pointer (some ⟨B, 9 + i, none⟩), .bool x105, .bool told, .bool true, .slice A1_9 n1_9 c1_9, .pointer (some ⟨b79, 0, none⟩), .int .i64 x69.id, .slice (some ⟨b112, 0, none⟩) 1 1, .slice (some ⟨g125, 0, none⟩) (n1_9 + 1) cap126, (U1 53), undef, undef]) (by kernel_rfl) ?_
        have x6 := SG.blk s132 x6 nb1_9_b2
        have x93 := SG.blk s132 x93 nb88
        have c138 := (SG.belowR c110 s132 (fun kq e => (World.ownsRow.lt ho102 kq e).1))
        refine h15 _ _ ?_
        refine W.region_quiet [(0, false), (1, false)] (by kernel_rfl) ?_
        refine W.sq (v := .int .i64 ((i + 1 : Nat) : Int)) rfl (r_add (m := ((i : Nat) : Int)) (n := 1) (z := ((i + 1 : Nat) : Int)) rfl (by kernel_rfl) (by kernel_rfl) (by omega) (by omega)) (by kernel_rfl) rfl rfl ?_
        refine W.sq (v := .int .i64 ((i + 1 : Nat) : Int)) rfl (r_move rfl (by kernel_rfl)) (by kernel_rfl) rfl rfl ?_
        refine W.sch_end (l' := [.agg #[.int .i64 m, .slice A n c], .pointer (some ⟨B, 0, none⟩), .bool told, .pointer (some ⟨b2, 0, none⟩), undef, undef, .slice none 0 0, .slice none 0 0, .slice A0_8 n0_8 c0_8, .slice (some ⟨g125, 0, none⟩) (n1_9 + 1) cap126, .int .i64 ((j + 1 : Nat) : Int), .int .i64 ((i : Nat) : Int), .pointer (some ⟨b79, 0, none⟩), .slice (some ⟨b11, 0, none⟩) 0 0, .slice (some ⟨b19, 0, none⟩) 0 0, .int .i64 ((j + 1 : Nat) : Int), .pointer (some ⟨b2, 0, none⟩), .int .i64 m, .bool false, (U0 19), (U0 20), (U0 21), (U0 22), (U0 23), (U0 24), (U0 25), (U0 26), (U0 27), (U0 28), (U0 29), (U0 30), (U0 31), .pointer (some ⟨b2, 1, none⟩), .slice A n c, .int .i64 ((n : Nat) : Int), .int .i64 ((i + 1 : Nat) : Int), .bool true, .int .i64 ((i : Nat) : Int), .pointer (some ⟨b71, o72 + i * 4, none⟩), .agg #[.int .i64 x69.id, .int .i64 x69.fr, .int .i64 x69.to, .int .i64 x69.sz], .pointer (some ⟨B, 0, none⟩), .int .i64 ((i : Nat) : Int), .int .i64 ((9 + i : Nat) : Int), .pointer (some ⟨B, 0, none⟩), .pointer (some ⟨B, 9 + i, none⟩), .bool x105, .bool told, .bool true, .slice A1_9 n1_9 c1_9, .pointer (some ⟨b79, 0, none⟩), .int .i64 x69.id, .slice (some ⟨b112, 0, none⟩) 1 1, .slice (some ⟨g125, 0, none⟩) (n1_9 + 1) cap126, .int .i64 ((i + 1 : Nat) : Int), undef, undef]) (by kernel_rfl) ?_
        exact h12 _ _ _ (by omega : (n - (i + 1)) < _) ⟨i + 1, (some ⟨g125, 0, none⟩), (n1_9 + 1), cap126, (fun iU9 => [.agg #[.int .i64 m, .slice A n c], .pointer (some ⟨B, 0, none⟩), .bool told, .pointer (some ⟨b2, 0, none⟩), undef, undef, .slice none 0 0, .slice none 0 0, .slice A0_8 n0_8 c0_8, .slice (some ⟨g125, 0, none⟩) (n1_9 + 1) cap126, .int .i64 ((j + 1 : Nat) : Int), .int .i64 ((i : Nat) : Int), .pointer (some ⟨b79, 0, none⟩), .slice (some ⟨b11, 0, none⟩) 0 0, .slice (some ⟨b19, 0, none⟩) 0 0, .int .i64 ((j + 1 : Nat) : Int), .pointer (some ⟨b2, 0, none⟩), .int .i64 m, .bool false, (U0 19), (U0 20), (U0 21), (U0 22), (U0 23), (U0 24), (U0 25), (U0 26), (U0 27), (U0 28), (U0 29), (U0 30), (U0 31), .pointer (some ⟨b2, 1, none⟩), .slice A n c, .int .i64 ((n : Nat) : Int), .int .i64 ((i + 1 : Nat) : Int), .bool true, .int .i64 ((i : Nat) : Int), .pointer (some ⟨b71, o72 + i * 4, none⟩), .agg #[.int .i64 x69.id, .int .i64 x69.fr, .int .i64 x69.to, .int .i64 x69.sz], .pointer (some ⟨B, 0, none⟩), .int .i64 ((i : Nat) : Int), .int .i64 ((9 + i : Nat) : Int), .pointer (some ⟨B, 0, none⟩), .pointer (some ⟨B, 9 + i, none⟩), .bool x105, .bool told, .bool true, .slice A1_9 n1_9 c1_9, .pointer (some ⟨b79, 0, none⟩), .int .i64 x69.id, .slice (some ⟨b112, 0, none⟩) 1 1, .slice (some ⟨g125, 0, none⟩) (n1_9 + 1) cap126, .int .i64 ((i + 1 : Nat) : Int), undef, undef].getD iU9 undef), (by kernel_rfl), rfl, (by omega), (by omega), x6, ho137, (by rw [idsL_yes hx70 (by rw [wet_eq9 hx106]; exact q109)]; exact ho128), nb133, nr136, c138⟩
      · refine W.sq (v := .bool false) rfl (r_eqlB (m := x105) (n := told) rfl (by kernel_rfl) (by kernel_rfl) (by kernel_rfl) (beq_eq_false_iff_ne.2 q109)) (by kernel_rfl) rfl rfl ?_
        refine W.sch_end (l' := [.agg #[.int .i64 m, .slice A n c], .pointer (some ⟨B, 0, none⟩), .bool told, .pointer (some ⟨b2, 0, none⟩), undef, undef, .slice none 0 0, .slice none 0 0, .slice A0_8 n0_8 c0_8, .slice A1_9 n1_9 c1_9, .int .i64 ((j + 1 : Nat) : Int), .int .i64 ((i : Nat) : Int), .pointer (some ⟨b79, 0, none⟩), .slice (some ⟨b11, 0, none⟩) 0 0, .slice (some ⟨b19, 0, none⟩) 0 0, .int .i64 ((j + 1 : Nat) : Int), .pointer (some ⟨b2, 0, none⟩), .int .i64 m, .bool false, (U0 19), (U0 20), (U0 21), (U0 22), (U0 23), (U0 24), (U0 25), (U0 26), (U0 27), (U0 28), (U0 29), (U0 30), (U0 31), .pointer (some ⟨b2, 1, none⟩), .slice A n c, .int .i64 ((n : Nat) : Int), .int .i64 ((i : Nat) : Int), .bool true, .int .i64 ((i : Nat) : Int), .pointer (some ⟨b71, o72 + i * 4, none⟩), .agg #[.int .i64 x69.id, .int .i64 x69.fr, .int .i64 x69.to, .int .i64 x69.sz], .pointer (some ⟨B, 0, none⟩), .int .i64 ((i : Nat) : Int), .int .i64 ((9 + i : Nat) : Int), .pointer (some ⟨B, 0, none⟩), .pointer (some ⟨B, 9 + i, none⟩), .bool x105, .bool told, .bool false, (U1 48), (U1 49), (U1 50), (U1 51), (U1 52), (U1 53), undef, undef]) (by kernel_rfl) ?_
        have x6 := SG.blk s100 x6 (by simp)
        have x93 := SG.blk s100 x93 (by simp)
        have c139 := (SG.belowR c97 s100 (fun kq e => by cases e))
        refine h17 _ _ ?_
        refine wp_cond_false (by kernel_rfl) ?_
        refine wp_skip ?_
        refine h15 _ _ ?_
        refine W.region_quiet [(0, false), (1, false)] (by kernel_rfl) ?_
        refine W.sq (v := .int .i64 ((i + 1 : Nat) : Int)) rfl (r_add (m := ((i : Nat) : Int)) (n := 1) (z := ((i + 1 : Nat) : Int)) rfl (by kernel_rfl) (by kernel_rfl) (by omega) (by omega)) (by kernel_rfl) rfl rfl ?_
        refine W.sq (v := .int .i64 ((i + 1 : Nat) : Int)) rfl (r_move rfl (by kernel_rfl)) (by kernel_rfl) rfl rfl ?_
        refine W.sch_end (l' := [.agg #[.int .i64 m, .slice A n c], .pointer (some ⟨B, 0, none⟩), .bool told, .pointer (some ⟨b2, 0, none⟩), undef, undef, .slice none 0 0, .slice none 0 0, .slice A0_8 n0_8 c0_8, .slice A1_9 n1_9 c1_9, .int .i64 ((j + 1 : Nat) : Int), .int .i64 ((i : Nat) : Int), .pointer (some ⟨b79, 0, none⟩), .slice (some ⟨b11, 0, none⟩) 0 0, .slice (some ⟨b19, 0, none⟩) 0 0, .int .i64 ((j + 1 : Nat) : Int), .pointer (some ⟨b2, 0, none⟩), .int .i64 m, .bool false, (U0 19), (U0 20), (U0 21), (U0 22), (U0 23), (U0 24), (U0 25), (U0 26), (U0 27), (U0 28), (U0 29), (U0 30), (U0 31), .pointer (some ⟨b2, 1, none⟩), .slice A n c, .int .i64 ((n : Nat) : Int), .int .i64 ((i + 1 : Nat) : Int), .bool true, .int .i64 ((i : Nat) : Int), .pointer (some ⟨b71, o72 + i * 4, none⟩), .agg #[.int .i64 x69.id, .int .i64 x69.fr, .int .i64 x69.to, .int .i64 x69.sz], .pointer (some ⟨B, 0, none⟩), .int .i64 ((i : Nat) : Int), .int .i64 ((9 + i : Nat) : Int), .pointer (some ⟨B, 0, none⟩), .pointer (some ⟨B, 9 + i, none⟩), .bool x105, .bool told, .bool false, (U1 48), (U1 49), (U1 50), (U1 51), (U1 52), .int .i64 ((i + 1 : Nat) : Int), undef, undef]) (by kernel_rfl) ?_
        exact h12 _ _ _ (by omega : (n - (i + 1)) < _) ⟨i + 1, A1_9, n1_9, c1_9, (fun iU9 => [.agg #[.int .i64 m, .slice A n c], .pointer (some ⟨B, 0, none⟩), .bool told, .pointer (some ⟨b2, 0, none⟩), undef, undef, .slice none 0 0, .slice none 0 0, .slice A0_8 n0_8 c0_8, .slice A1_9 n1_9 c1_9, .int .i64 ((j + 1 : Nat) : Int), .int .i64 ((i : Nat) : Int), .pointer (some ⟨b79, 0, none⟩), .slice (some ⟨b11, 0, none⟩) 0 0, .slice (some ⟨b19, 0, none⟩) 0 0, .int .i64 ((j + 1 : Nat) : Int), .pointer (some ⟨b2, 0, none⟩), .int .i64 m, .bool false, (U0 19), (U0 20), (U0 21), (U0 22), (U0 23), (U0 24), (U0 25), (U0 26), (U0 27), (U0 28), (U0 29), (U0 30), (U0 31), .pointer (some ⟨b2, 1, none⟩), .slice A n c, .int .i64 ((n : Nat) : Int), .int .i64 ((i + 1 : Nat) : Int), .bool true, .int .i64 ((i : Nat) : Int), .pointer (some ⟨b71, o72 + i * 4, none⟩), .agg #[.int .i64 x69.id, .int .i64 x69.fr, .int .i64 x69.to, .int .i64 x69.sz], .pointer (some ⟨B, 0, none⟩), .int .i64 ((i : Nat) : Int), .int .i64 ((9 + i : Nat) : Int), .pointer (some ⟨B, 0, none⟩), .pointer (some ⟨B, 9 + i, none⟩), .bool x105, .bool told, .bool false, (U1 48), (U1 49), (U1 50), (U1 51), (U1 52), .int .i64 ((i + 1 : Nat) : Int), undef, undef].getD iU9 undef), (by kernel_rfl), rfl, (by omega), (by omega), x6, ho101, (by rw [idsL_no (by rw [wet_eq9 hx106]; exact q109)]; exact ho102), nb1_9_b2, nr1_1_0, c139⟩
    · refine W.sq (v := .bool false) rfl (r_lss (m := ((i : Nat) : Int)) (n := ((n : Nat) : Int)) rfl (by kernel_rfl) (by kernel_rfl) (decide_eq_false q67)) (by kernel_rfl) rfl rfl ?_
      refine W.sch_end (l' := [.agg #[.int .i64 m, .slice A n c], .pointer (some ⟨B, 0, none⟩), .bool told, .pointer (some ⟨b2, 0, none⟩), undef, undef, .slice none 0 0, .slice none 0 0, .slice A0_8 n0_8 c0_8, .slice A1_9 n1_9 c1_9, .int .i64 ((j + 1 : Nat) : Int), (U1 11), (U1 12), .slice (some ⟨b11, 0, none⟩) 0 0, .slice (some ⟨b19, 0, none⟩) 0 0, .int .i64 ((j + 1 : Nat) : Int), .pointer (some ⟨b2, 0, none⟩), .int .i64 m, .bool false, (U0 19), (U0 20), (U0 21), (U0 22), (U0 23), (U0 24), (U0 25), (U0 26), (U0 27), (U0 28), (U0 29), (U0 30), (U0 31), .pointer (some ⟨b2, 1, none⟩), .slice A n c, .int .i64 ((n : Nat) : Int), .int .i64 ((i : Nat) : Int), .bool false, (U1 37), (U1 38), (U1 39), (U1 40), (U1 41), (U1 42), (U1 43), (U1 44), (U1 45), (U1 46), (U1 47), (U1 48), (U1 49), (U1 50), (U1 51), (U1 52), (U1 53), undef, undef]) (by kernel_rfl) ?_
      refine h13 _ _ ?_
      refine wp_seq_k (fun K18 h18 => ?_)
      refine wp_cond_false (by kernel_rfl) ?_
      refine wp_exit ?_
      refine h10 _ _ ?_
      refine wp_seq_k (fun K19 h19 => ?_)
      refine W.region_quiet [(0, false), (1, false), (2, false), (3, false)] (by kernel_rfl) ?_
      refine W.sq (v := .slice A0_8 n0_8 c0_8) rfl (r_move rfl (by kernel_rfl)) (by kernel_rfl) rfl rfl ?_
      refine W.sq (v := .slice A1_9 n1_9 c1_9) rfl (r_move rfl (by kernel_rfl)) (by kernel_rfl) rfl rfl ?_
      refine W.sq (v := .slice A0_8 n0_8 c0_8) rfl (r_assign rfl (by kernel_rfl)) (by kernel_rfl) rfl rfl ?_
      refine W.sq (v := .slice A1_9 n1_9 c1_9) rfl (r_assign rfl (by kernel_rfl)) (by kernel_rfl) rfl rfl ?_
      refine W.sch_end (l' := [.agg #[.int .i64 m, .slice A n c], .pointer (some ⟨B, 0, none⟩), .bool told, .pointer (some ⟨b2, 0, none⟩), undef, undef, .slice A0_8 n0_8 c0_8, .slice A1_9 n1_9 c1_9, .slice A0_8 n0_8 c0_8, .slice A1_9 n1_9 c1_9, .int .i64 ((j + 1 : Nat) : Int), (U1 11), (U1 12), .slice (some ⟨b11, 0, none⟩) 0 0, .slice (some ⟨b19, 0, none⟩) 0 0, .int .i64 ((j + 1 : Nat) : Int), .pointer (some ⟨b2, 0, none⟩), .int .i64 m, .bool false, (U0 19), (U0 20), (U0 21), (U0 22), (U0 23), (U0 24), (U0 25), (U0 26), (U0 27), (U0 28), (U0 29), (U0 30), (U0 31), .pointer (some ⟨b2, 1, none⟩), .slice A n c, .int .i64 ((n : Nat) : Int), .int .i64 ((i : Nat) : Int), .bool false, (U1 37), (U1 38), (U1 39), (U1 40), (U1 41), (U1 42), (U1 43), (U1 44), (U1 45), (U1 46), (U1 47), (U1 48), (U1 49), (U1 50), (U1 51), (U1 52), (U1 53), .slice A0_8 n0_8 c0_8, .slice A1_9 n1_9 c1_9]) (by kernel_rfl) ?_
      refine h19 _ _ ?_
      refine wp_ret ?_
      try simp only [Exit.then]
      refine ret2 (v := .slice A0_8 n0_8 c0_8) (x := .slice A1_9 n1_9 c1_9) rfl (by kernel_rfl) (by kernel_rfl) ?_
      exact ⟨_, _, _, _, _, _, rfl, ho1_8, (by rw [show ps.length = i by omega]; exact ho1_9), (NbR.symm nr1_1_0), c66⟩

set_option maxRecDepth 100000 in
set_option maxHeartbeats 1000000 in
theorem l4Ids_any (m : Int) (A : Option Addr) (n c : Nat) (ps : List Pp) (A4 : Option Addr) (n4 c4 : Nat) (xs : List Int) (w : World) (ha : Rd w 4 A n (pipesV ps)) (hn : n ≤ 1048576) (hx : Rd w 1 A4 n4 (intsV xs)) (hn4 : n4 ≤ 1000000) (hin : ∀ y, y ∈ xs → 0 ≤ y ∧ y < ps.length) :
    Calls Try.prog 67 #[.agg #[.int .i64 m, .slice A n c], .slice A4 n4 c4] w fun e w' => ∃ A5 n5 c5, e = .returned (.slice A5 n5 c5) ∧ Rd w' 1 A5 n5 (intsV (idsAt ps xs)) ∧ Fm A5 n5 c5 ∧ Below w.heap.size w w' := by
  have hl := rd_pipes_len ha
  have hlx := rd_ints_len hx
  go_enter Try.func67, Try.ntmps67
  refine wp_seq_k (fun K1 h1 => ?_)
  refine W.region_plain (row := none) [(0, true), (1, false)] (by kernel_rfl) ?_
  have s1 := SG.self w none
  refine W.sn (fun b => .pointer (some ⟨b, 0, none⟩)) #[.int .i64 m, .slice A n c] 31 s1 rfl (by kernel_rfl) rfl (fun _ => by kernel_rfl) (fun b2 w3 hb4 k5 x6 s7 => ?_)
  have lo8 : w.heap.size ≤ b2 := by have := ((SG.belowR (Below.refl _ _) s1 (fun kq e => by cases e))).size; omega
  refine W.sq (v := .slice none 0 0) rfl (r_assign rfl (by kernel_rfl)) (by kernel_rfl) rfl rfl ?_
  refine W.sch_end (l' := [.agg #[.int .i64 m, .slice A n c], .slice A4 n4 c4, .pointer (some ⟨b2, 0, none⟩), undef, .slice none 0 0, undef, undef, undef, undef, undef, undef, undef, undef, undef, undef, undef, undef, undef, undef, undef, undef, undef, undef, undef, undef, undef, undef]) (by kernel_rfl) ?_
  have c9 := (SG.belowR (Below.refl _ _) s7 (fun kq e => by cases e))
  refine h1 _ _ ?_
  refine wp_seq_k (fun K2 h2 => ?_)
  refine W.region_plain (row := none) [(0, true), (1, false)] (by kernel_rfl) ?_
  have s10 := SG.self w3 none
  refine W.sn (fun b => .slice (some ⟨b, 0, none⟩) 0 0) #[] 3 s10 rfl (by kernel_rfl) rfl (fun _ => by kernel_rfl) (fun b11 w12 hb13 k14 x15 s16 => ?_)
  have lo17 : w.heap.size ≤ b11 := by have := ((SG.belowR c9 s10 (fun kq e => by cases e))).size; omega
  have ne18 : b2 ≠ b11 := by have := blk_lt x6; have := World.grownBy.size s10; omega
  refine W.sq (v := .slice (some ⟨b11, 0, none⟩) 0 0) rfl (r_assign rfl (by kernel_rfl)) (by kernel_rfl) rfl rfl ?_
  refine W.sch_end (l' := [.agg #[.int .i64 m, .slice A n c], .slice A4 n4 c4, .pointer (some ⟨b2, 0, none⟩), undef, .slice none 0 0, .slice (some ⟨b11, 0, none⟩) 0 0, undef, .slice (some ⟨b11, 0, none⟩) 0 0, undef, undef, undef, undef, undef, undef, undef, undef, undef, undef, undef, undef, undef, undef, undef, undef, undef, undef, undef]) (by kernel_rfl) ?_
  have x6 := SG.blk s16 x6 (by simp)
  have c19 := (SG.belowR c9 s16 (fun kq e => by cases e))
  refine h2 _ _ ?_
  refine wp_seq_k (fun K3 h3 => ?_)
  refine wp_seq_k (fun K4 h4 => ?_)
  refine W.region_quiet [(0, false)] (by kernel_rfl) ?_
  refine W.sq (v := .int .i64 0) rfl (r_assign rfl (by kernel_rfl)) (by kernel_rfl) rfl rfl ?_
  refine W.sch_end (l' := [.agg #[.int .i64 m, .slice A n c], .slice A4 n4 c4, .pointer (some ⟨b2, 0, none⟩), undef, .slice none 0 0, .slice (some ⟨b11, 0, none⟩) 0 0, .int .i64 0, .slice (some ⟨b11, 0, none⟩) 0 0, undef, undef, undef, undef, undef, undef, undef, undef, undef, undef, undef, undef, undef, undef, undef, undef, undef, undef, undef]) (by kernel_rfl) ?_
  refine h4 _ _ ?_
  refine wp_block ?_
  have ho20 := own_empty (base := w.heap.size) (size := 1) x15 lo17
  replace ho20 : World.ownsRow _ _ _ _ _ _ (intsV []) := ho20
  have nb21 : Nb b2 (.slice (some ⟨b11, 0, none⟩) 0 0) := nb_new (by have := ne18; omega)
  refine loopK (fun am0 aa0 wl0 => ∃ (i : Nat) (A0_5 : Option Addr) (n0_5 : Nat) (c0_5 : Nat) (U0 : Nat → Value), aa0 = ⟨[.agg #[.int .i64 m, .slice A n c], .slice A4 n4 c4, .pointer (some ⟨b2, 0, none⟩), undef, .slice none 0 0, .slice A0_5 n0_5 c0_5, .int .i64 ((i : Nat) : Int), .slice (some ⟨b11, 0, none⟩) 0 0, U0 8, U0 9, U0 10, U0 11, U0 12, U0 13, U0 14, U0 15, U0 16, U0 17, U0 18, U0 19, U0 20, U0 21, U0 22, U0 23, U0 24, U0 25, undef].toArray, []⟩ ∧ (am0 = n4 - i) ∧ (i ≤ n4) ∧ (n0_5 ≤ i) ∧ (wl0.heap[b2]? = some (.cells #[.int .i64 m, .slice A n c] 31 (0, 0))) ∧ (wl0.ownsRow w.heap.size 3 1 (.slice A0_5 n0_5 c0_5) n0_5 (intsV (idsAt ps (xs.take i)))) ∧ (Nb b2 (.slice A0_5 n0_5 c0_5)) ∧ (Below w.heap.size w wl0)) (n4 - 0) ?_ ?_
  · exact ⟨0, (some ⟨b11, 0, none⟩), 0, 0, (fun iU9 => [.agg #[.int .i64 m, .slice A n c], .slice A4 n4 c4, .pointer (some ⟨b2, 0, none⟩), undef, .slice none 0 0, .slice (some ⟨b11, 0, none⟩) 0 0, .int .i64 0, .slice (some ⟨b11, 0, none⟩) 0 0, undef, undef, undef, undef, undef, undef, undef, undef, undef, undef, undef, undef, undef, undef, undef, undef, undef, undef, undef].getD iU9 undef), (by kernel_rfl), rfl, (Nat.zero_le _), (Nat.zero_le _), x6, ho20, nb21, c19⟩
  rintro am0 aa0 wl0 K5 h5 ⟨i, A0_5, n0_5, c0_5, U0, rfl, rfl, hi, hb5, x6, ho0_5, nb0_5_b2, c22⟩
  refine wp_seq_k (fun K6 h6 => ?_)
  refine wp_seq_k (fun K7 h7 => ?_)
  refine W.region_quiet [(0, false), (1, false), (2, false), (3, false)] (by kernel_rfl) ?_
  refine W.sq (v := .int .i64 ((i : Nat) : Int)) rfl (r_move rfl (by kernel_rfl)) (by kernel_rfl) rfl rfl ?_
  refine W.sq (v := .slice A4 n4 c4) rfl (r_move rfl (by kernel_rfl)) (by kernel_rfl) rfl rfl ?_
  refine W.sq (v := .int .i64 ((n4 : Nat) : Int)) rfl (r_len (A := A4) (n := n4) (c := c4) rfl (by kernel_rfl) (by kernel_rfl)) (by kernel_rfl) rfl rfl ?_
  by_cases q23 : (((i : Nat) : Int) : Int) < (((n4 : Nat) : Int) : Int)
  · refine W.sq (v := .bool true) rfl (r_lss (m := ((i : Nat) : Int)) (n := ((n4 : Nat) : Int)) rfl (by kernel_rfl) (by kernel_rfl) (decide_eq_true q23)) (by kernel_rfl) rfl rfl ?_
    refine W.sch_end (l' := [.agg #[.int .i64 m, .slice A n c], .slice A4 n4 c4, .pointer (some ⟨b2, 0, none⟩), undef, .slice none 0 0, .slice A0_5 n0_5 c0_5, .int .i64 ((i : Nat) : Int), .slice (some ⟨b11, 0, none⟩) 0 0, .int .i64 ((i : Nat) : Int), .slice A4 n4 c4, .int .i64 ((n4 : Nat) : Int), .bool true, (U0 12), (U0 13), (U0 14), (U0 15), (U0 16), (U0 17), (U0 18), (U0 19), (U0 20), (U0 21), (U0 22), (U0 23), (U0 24), (U0 25), undef]) (by kernel_rfl) ?_
    refine h7 _ _ ?_
    refine wp_cond_true (by kernel_rfl) ?_
    refine wp_skip ?_
    refine h6 _ _ ?_
    refine wp_seq_k (fun K8 h8 => ?_)
    refine wp_block ?_
    refine W.region_sch (row := (Value.ownBlock (.slice A0_5 n0_5 c0_5))) (Sch.of [(0, false), (1, false), (2, false), (3, false), (4, false), (5, false), (6, false), (7, false), (8, false), (9, false), (10, true), (11, true), (12, false)]) (by kernel_rfl) (by kernel_rfl) (fun _ d _ _ _ h => by cases d <;> exact h) (by kernel_rfl) (fun w24 e25 s26 => ?_)
    have ho27 := own_heap ho0_5 e25
    refine W.sq (v := .slice A0_5 n0_5 c0_5) rfl (r_move rfl (by kernel_rfl)) (by kernel_rfl) rfl rfl ?_
    refine W.sq (v := .pointer (some ⟨b2, 1, none⟩)) rfl (r_field (k := 1) rfl (by kernel_rfl) (by kernel_rfl)) (by kernel_rfl) rfl rfl ?_
    refine W.sq (v := .slice A n c) rfl (r_load rfl (by kernel_rfl) (by kernel_rfl) (sgS (blk_cell (j := 1) x6 (by kernel_rfl)) nb0_5_b2)) (by kernel_rfl) rfl rfl ?_
    refine W.sq (v := .slice A4 n4 c4) rfl (r_move rfl (by kernel_rfl)) (by kernel_rfl) rfl rfl ?_
    refine W.sq (v := .int .i64 ((i : Nat) : Int)) rfl (r_move rfl (by kernel_rfl)) (by kernel_rfl) rfl rfl ?_
    obtain ⟨x28, hx29⟩ := get_of (zs := xs) (k := i) (by have := hlx; omega)
    obtain ⟨b30, o31, hA32, hb33, hc34⟩ := Rd.elInt hx hx29
    refine W.sq (v := .pointer (some ⟨b30, o31 + i, none⟩)) rfl (r_idx1 (n := n4) (c := c4) (k := i) rfl (by kernel_rfl) hA32 (by kernel_rfl) (by kernel_rfl) (by have := hlx; omega)) (by kernel_rfl) rfl rfl ?_
    refine W.sq (v := .int .i64 x28) rfl (r_load rfl (by kernel_rfl) (by kernel_rfl) (sgS (later c22 hc34) (nb_lo ho0_5 hb33))) (by kernel_rfl) rfl rfl ?_
    have hy9 := hin x28 (List.mem_of_getElem? hx29)
    obtain ⟨x35, hx36⟩ := get_of (zs := ps) (k := x28.toNat) (by have := hl; omega)
    obtain ⟨b37, o38, hA39, hb40, hc41, hc42, hc43, hc44⟩ := Rd.elPipe ha hx36
    refine W.sq (v := .pointer (some ⟨b37, o38 + x28.toNat * 4, none⟩)) rfl (r_idx (n := n) (c := c) (k := x28.toNat) rfl (by kernel_rfl) hA39 (evk (z := x28) (by kernel_rfl) (by omega)) (by kernel_rfl) (by have := hl; omega)) (by kernel_rfl) rfl rfl ?_
    refine W.sq (v := .pointer (some ⟨b37, o38 + x28.toNat * 4, none⟩)) rfl (r_field0 rfl (by kernel_rfl) (by kernel_rfl)) (by kernel_rfl) rfl rfl ?_
    refine W.sq (v := .int .i64 x35.id) rfl (r_load rfl (by kernel_rfl) (by kernel_rfl) (sgS (later c22 hc41) (nb_lo ho0_5 hb40))) (by kernel_rfl) rfl rfl ?_
    refine W.sn (fun b => .slice (some ⟨b, 0, none⟩) 1 1) #[.int .i64 x35.id] 3 s26 rfl (by kernel_rfl) rfl (fun _ => by kernel_rfl) (fun b45 w46 hb47 k48 x49 s50 => ?_)
    have lo51 : w.heap.size ≤ b45 := by have := ((SG.belowR c22 s26 (fun kq e => (World.ownsRow.lt ho0_5 kq e).1))).size; omega
    have ne52 : b2 ≠ b45 := by have := blk_lt x6; have := World.grownBy.size s26; omega
    have nb53 : Nb b45 (.slice A0_5 n0_5 c0_5) := nb_hi ho27 (Nat.le_of_eq hb47)
    have ho54 := own_kept ho27 k48
    refine W.sap (e := 3) (size := 1) (base := w.heap.size) (m := 1) (v := .slice A0_5 n0_5 c0_5) (c := 1) s50 rfl rfl rfl rfl (by kernel_rfl) (by kernel_rfl) (by kernel_rfl) ho54 x49 (by kernel_rfl) (by kernel_rfl) (by omega) (by omega) (by have := ((SG.belowR c22 s50 (fun kq e => (World.ownsRow.lt ho0_5 kq e).1))).size; omega) (.inl rfl) (fun g55 cap56 w57 ho58 hg59 hat60 hlt61 s62 => ?_)
    have nb63 : Nb b2 (.slice (some ⟨g55, 0, none⟩) (n0_5 + 1) cap56) := nb_app nb0_5_b2 (Nat.lt_of_lt_of_le (blk_lt x6) (World.grownBy.size s50)) hat60
    have nb64 : Nb b45 (.slice (some ⟨g55, 0, none⟩) (n0_5 + 1) cap56) := nb_app nb53 (blk_lt x49) hat60
    have x49 := (hg59.block _ (blk_lt x49) nb53).trans x49
    have ho58 := own_snoc ho58
    refine W.sq (v := .slice (some ⟨g55, 0, none⟩) (n0_5 + 1) cap56) rfl (r_assign rfl (by kernel_rfl)) (by kernel_rfl) rfl rfl ?_
    refine W.sch_end (l' := [.agg #[.int .i64 m, .slice A n c], .slice A4 n4 c4, .pointer (some ⟨b2, 0, none⟩), undef, .slice none 0 0, .slice (some ⟨g55, 0, none⟩) (n0_5 + 1) cap56, .int .i64 ((i : Nat) : Int), .slice (some ⟨b11, 0, none⟩) 0 0, .int .i64 ((i : Nat) : Int), .slice A4 n4 c4, .int .i64 ((n4 : Nat) : Int), .bool true, (U0 12), (U0 13), .slice A0_5 n0_5 c0_5, .pointer (some ⟨b2, 1, none⟩), .slice A n c, .slice A4 n4 c4, .int .i64 ((i : Nat) : Int), .pointer (some ⟨b30, o31 + i, none⟩), .int .i64 x28, .pointer (some ⟨b37, o38 + x28.toNat * 4, none⟩), .pointer (some ⟨b37, o38 + x28.toNat * 4, none⟩), .int .i64 x35.id, .slice (some ⟨b45, 0, none⟩) 1 1, .slice (some ⟨g55, 0, none⟩) (n0_5 + 1) cap56, undef]) (by kernel_rfl) ?_
    have x6 := SG.blk s62 x6 nb0_5_b2
    have c65 := (SG.belowR c22 s62 (fun kq e => (World.ownsRow.lt ho0_5 kq e).1))
    refine h8 _ _ ?_
    refine W.region_quiet [(0, false), (1, false), (2, false)] (by kernel_rfl) ?_
    refine W.sq (v := .int .i64 ((i : Nat) : Int)) rfl (r_move rfl (by kernel_rfl)) (by kernel_rfl) rfl rfl ?_
    refine W.sq (v := .int .i64 ((i + 1 : Nat) : Int)) rfl (r_add (m := ((i : Nat) : Int)) (n := 1) (z := ((i + 1 : Nat) : Int)) rfl (by kernel_rfl) (by kernel_rfl) (by omega) (by omega)) (by kernel_rfl) rfl rfl ?_
    refine W.sq (v := .int .i64 ((i + 1 : Nat) : Int)) rfl (r_assign rfl (by kernel_rfl)) (by kernel_rfl) rfl rfl ?_
    refine W.sch_end (l' := [.agg #[.int .i64 m, .slice A n c], .slice A4 n4 c4, .pointer (some ⟨b2, 0, none⟩), undef, .slice none 0 0, .slice (some ⟨g55, 0, none⟩) (n0_5 + 1) cap56, .int .i64 ((i + 1 : Nat) : Int), .slice (some ⟨b11, 0, none⟩) 0 0, .int .i64 ((i : Nat) : Int), .slice A4 n4 c4, .int .i64 ((n4 : Nat) : Int), .bool true, .int .i64 ((i : Nat) : Int), .int .i64 ((i + 1 : Nat) : Int), .slice A0_5 n0_5 c0_5, .pointer (some ⟨b2, 1, none⟩), .slice A n c, .slice A4 n4 c4, .int .i64 ((i : Nat) : Int), .pointer (some ⟨b30, o31 + i, none⟩), .int .i64 x28, .pointer (some ⟨b37, o38 + x28.toNat * 4, none⟩), .pointer (some ⟨b37, o38 + x28.toNat * 4, none⟩), .int .i64 x35.id, .slice (some ⟨b45, 0, none⟩) 1 1, .slice (some ⟨g55, 0, none⟩) (n0_5 + 1) cap56, undef]) (by kernel_rfl) ?_
    exact h5 _ _ _ (by omega : (n4 - (i + 1)) < _) ⟨i + 1, (some ⟨g55, 0, none⟩), (n0_5 + 1), cap56, (fun iU9 => [.agg #[.int .i64 m, .slice A n c], .slice A4 n4 c4, .pointer (some ⟨b2, 0, none⟩), undef, .slice none 0 0, .slice (some ⟨g55, 0, none⟩) (n0_5 + 1) cap56, .int .i64 ((i + 1 : Nat) : Int), .slice (some ⟨b11, 0, none⟩) 0 0, .int .i64 ((i : Nat) : Int), .slice A4 n4 c4, .int .i64 ((n4 : Nat) : Int), .bool true, .int .i64 ((i : Nat) : Int), .int .i64 ((i + 1 : Nat) : Int), .slice A0_5 n0_5 c0_5, .pointer (some ⟨b2, 1, none⟩), .slice A n c, .slice A4 n4 c4, .int .i64 ((i : Nat) : Int), .pointer (some ⟨b30, o31 + i, none⟩), .int .i64 x28, .pointer (some ⟨b37, o38 + x28.toNat * 4, none⟩), .pointer (some ⟨b37, o38 + x28.toNat * 4, none⟩), .int .i64 x35.id, .slice (some ⟨b45, 0, none⟩) 1 1, .slice (some ⟨g55, 0, none⟩) (n0_5 + 1) cap56, undef].getD iU9 undef), (by kernel_rfl), rfl, (by omega), (by omega), x6, (by rw [idsAt_take hx29 hx36]; exact ho58), nb63, c65⟩
  · refine W.sq (v := .bool false) rfl (r_lss (m := ((i : Nat) : Int)) (n := ((n4 : Nat) : Int)) rfl (by kernel_rfl) (by kernel_rfl) (decide_eq_false q23)) (by kernel_rfl) rfl rfl ?_
    refine W.sch_end (l' := [.agg #[.int .i64 m, .slice A n c], .slice A4 n4 c4, .pointer (some ⟨b2, 0, none⟩), undef, .slice none 0 0, .slice A0_5 n0_5 c0_5, .int .i64 ((i : Nat) : Int), .slice (some ⟨b11, 0, none⟩) 0 0, .int .i64 ((i : Nat) : Int), .slice A4 n4 c4, .int .i64 ((n4 : Nat) : Int), .bool false, (U0 12), (U0 13), (U0 14), (U0 15), (U0 16), (U0 17), (U0 18), (U0 19), (U0 20), (U0 21), (U0 22), (U0 23), (U0 24), (U0 25), undef]) (by kernel_rfl) ?_
    refine h7 _ _ ?_
    refine wp_cond_false (by kernel_rfl) ?_
    refine wp_exit ?_
    refine h3 _ _ ?_
    refine wp_seq_k (fun K9 h9 => ?_)
    refine W.region_quiet [(0, false), (1, false)] (by kernel_rfl) ?_
    refine W.sq (v := .slice A0_5 n0_5 c0_5) rfl (r_move rfl (by kernel_rfl)) (by kernel_rfl) rfl rfl ?_
    refine W.sq (v := .slice A0_5 n0_5 c0_5) rfl (r_assign rfl (by kernel_rfl)) (by kernel_rfl) rfl rfl ?_
    refine W.sch_end (l' := [.agg #[.int .i64 m, .slice A n c], .slice A4 n4 c4, .pointer (some ⟨b2, 0, none⟩), undef, .slice A0_5 n0_5 c0_5, .slice A0_5 n0_5 c0_5, .int .i64 ((i : Nat) : Int), .slice (some ⟨b11, 0, none⟩) 0 0, .int .i64 ((i : Nat) : Int), .slice A4 n4 c4, .int .i64 ((n4 : Nat) : Int), .bool false, (U0 12), (U0 13), (U0 14), (U0 15), (U0 16), (U0 17), (U0 18), (U0 19), (U0 20), (U0 21), (U0 22), (U0 23), (U0 24), (U0 25), .slice A0_5 n0_5 c0_5]) (by kernel_rfl) ?_
    refine h9 _ _ ?_
    refine wp_ret ?_
    try simp only [Exit.then]
    refine ret1 (v := .slice A0_5 n0_5 c0_5) rfl (by kernel_rfl) ?_
    have h9 := own_rd ho0_5
    rw [List.take_of_length_le (by omega)] at h9
    exact ⟨_, _, _, rfl, h9, own_fm ho0_5, c22⟩

set_option maxRecDepth 100000 in
set_option maxHeartbeats 1000000 in
theorem l4Dry_any (m : Int) (A : Option Addr) (n c : Nat) (ps : List Pp) (A2 : Option Addr) (n2 c2 : Nat) (vs : List Vv) (a : Int) (w : World) (ha : Rd w 4 A n (pipesV ps)) (hb : Rd w 4 A2 n2 (valvesV vs)) (hn : n ≤ 1048576) (hn2 : n2 ≤ 1048576) (hp : pipesIn ps m.toNat) (hm : 1 ≤ m ∧ m ≤ 8) (hlen10 : ps.length ≤ 10) (hav : 1 ≤ a ∧ a ≤ m) :
    Calls Try.prog 79 #[.agg #[.int .i64 m, .slice A n c], .slice A2 n2 c2, .int .i64 a] w fun e w' => ∃ A5 n5 c5 A6 n6 c6, e = .returned (.tuple #[.slice A5 n5 c5, .slice A6 n6 c6]) ∧ Rd w' 1 A5 n5 (intsV (nodesL (linked ps (openQ vs true)) m.toNat a false)) ∧ Fm A5 n5 c5 ∧ Rd w' 1 A6 n6 (intsV (idxL (linked ps (openQ vs true)) ps.length a false)) ∧ Fm A6 n6 c6 ∧ Below w.heap.size w w' := by
  have hl := rd_pipes_len ha
  have hl2 := rd_valves_len hb
  go_enter Try.func79, Try.ntmps79
  refine wp_seq_k (fun K1 h1 => ?_)
  refine W.region_plain (row := none) [(0, true), (1, false), (2, false)] (by kernel_rfl) ?_
  have s1 := SG.self w none
  refine W.sn (fun b => .pointer (some ⟨b, 0, none⟩)) #[.int .i64 m, .slice A n c] 31 s1 rfl (by kernel_rfl) rfl (fun _ => by kernel_rfl) (fun b2 w3 hb4 k5 x6 s7 => ?_)
  have lo8 : w.heap.size ≤ b2 := by have := ((SG.belowR (Below.refl _ _) s1 (fun kq e => by cases e))).size; omega
  refine W.sq (v := .slice none 0 0) rfl (r_assign rfl (by kernel_rfl)) (by kernel_rfl) rfl rfl ?_
  refine W.sq (v := .slice none 0 0) rfl (r_assign rfl (by kernel_rfl)) (by kernel_rfl) rfl rfl ?_
  refine W.sch_end (l' := [.agg #[.int .i64 m, .slice A n c], .slice A2 n2 c2, .int .i64 a, .pointer (some ⟨b2, 0, none⟩), undef, undef, .slice none 0 0, .slice none 0 0, undef, undef, undef, undef, undef, undef, undef, undef, undef, undef, undef, undef, undef, undef, undef, undef, undef, undef, undef, undef, undef, undef, undef, undef, undef, undef, undef, undef, undef, undef, undef, undef, undef, undef, undef, undef, undef, undef, undef, undef, undef, undef, undef, undef, undef, undef, undef, undef]) (by kernel_rfl) ?_
  have c9 := (SG.belowR (Below.refl _ _) s7 (fun kq e => by cases e))
  refine h1 _ _ ?_
  refine wp_seq_k (fun K2 h2 => ?_)
  refine W.region_plain (row := none) [(0, false), (1, false), (2, false), (3, true), (4, true), (5, true), (6, false), (7, false), (8, false), (9, false), (10, false)] (by kernel_rfl) ?_
  have s10 := SG.self w3 none
  refine W.sq (v := .agg #[.int .i64 m, .slice A n c]) rfl (r_load2 rfl (by kernel_rfl) (by kernel_rfl) (by kernel_rfl) (sgS (blk_cell (j := 0) x6 (by kernel_rfl)) (by simp)) (sgS (blk_cell (j := 1) x6 (by kernel_rfl)) (by simp))) (by kernel_rfl) rfl rfl ?_
  refine W.sq (v := .slice A2 n2 c2) rfl (r_move rfl (by kernel_rfl)) (by kernel_rfl) rfl rfl ?_
  refine W.sq (v := .int .i64 a) rfl (r_move rfl (by kernel_rfl)) (by kernel_rfl) rfl rfl ?_
  refine W.sn (fun b => .slice (some ⟨b, 0, none⟩) 1 1) #[.int .i64 a] 3 s10 rfl (by kernel_rfl) rfl (fun _ => by kernel_rfl) (fun b11 w12 hb13 k14 x15 s16 => ?_)
  have lo17 : w.heap.size ≤ b11 := by have := ((SG.belowR c9 s10 (fun kq e => by cases e))).size; omega
  have ne18 : b2 ≠ b11 := by have := blk_lt x6; have := World.grownBy.size s10; omega
  refine W.sn (fun b => .slice (some ⟨b, 0, none⟩) 0 0) #[] 3 s16 rfl (by kernel_rfl) rfl (fun _ => by kernel_rfl) (fun b19 w20 hb21 k22 x23 s24 => ?_)
  have lo25 : w.heap.size ≤ b19 := by have := ((SG.belowR c9 s16 (fun kq e => by cases e))).size; omega
  have ne26 : b2 ≠ b19 := by have := blk_lt x6; have := World.grownBy.size s16; omega
  have ne27 : b11 ≠ b19 := by have := blk_lt x15; omega
  have x15 := (k22.block _ (blk_lt x15)).trans x15
  have ho28 := own_blk (base := w.heap.size) (size := 1) (n := 1) x15 lo17 rfl (by omega)
  replace ho28 : World.ownsRow _ _ _ _ _ _ (intsV [a]) := ho28
  have nb29 : Nb b2 (.slice (some ⟨b11, 0, none⟩) 1 1) := nb_new (by have := ne18; omega)
  have nb30 : Nb b19 (.slice (some ⟨b11, 0, none⟩) 1 1) := nb_new (by have := ne27; omega)
  have rd32 := own_rd ho28
  have hl33 := rd_ints_len rd32
  have ho34 := own_empty (base := w.heap.size) (size := 1) x23 lo25
  replace ho34 : World.ownsRow _ _ _ _ _ _ (intsV []) := ho34
  have nb35 : Nb b2 (.slice (some ⟨b19, 0, none⟩) 0 0) := nb_new (by have := ne26; omega)
  have rd37 := own_rd ho34
  have hl38 := rd_ints_len rd37
  refine W.sc (vs := [.agg #[.int .i64 m, .slice A n c], .slice A2 n2 c2, .bool true, .slice (some ⟨b11, 0, none⟩) 1 1, .slice (some ⟨b19, 0, none⟩) 0 0]) rfl rfl (by kernel_rfl) (by kernel_rfl) (by kernel_rfl) rfl (l4Spread_true m A n c ps A2 n2 c2 vs a (some ⟨b11, 0, none⟩) 1 1 ([a]) (some ⟨b19, 0, none⟩) 0 0 ([]) _ (Rd.kept ha (SG.belowR c9 s24 (fun kq e => by cases e))) (Rd.kept hb (SG.belowR c9 s24 (fun kq e => by cases e))) (by omega) (by omega) hp (by omega) (by omega) rd32 (own_fm ho28) rd37 (own_fm ho34) (FndQ.startN _ (by omega))) ?_
  rintro e w54 ⟨A39, n40, c41, A42, n43, c44, rfl, rd45, fm46, rd47, fm48, b53⟩
  have s55 := SG.of_below s24 b53
  refine ⟨_, rfl, s55, ?_⟩
  have rd56 := Rd.kept rd32 b53
  have rd57 := Rd.kept rd37 b53
  have hl51 := rd_ints_len rd45
  have hl52 := rd_ints_len rd47
  have := nodesL_len (linked ps (openQ vs true)) m.toNat a true
  have := idxL_len (linked ps (openQ vs true)) ps.length a true
  refine W.sq (v := .tuple #[.slice A39 n40 c41, .slice A42 n43 c44]) rfl (r_move rfl (by kernel_rfl)) (by kernel_rfl) rfl rfl ?_
  refine W.sq (v := .slice A39 n40 c41) rfl (r_extract (vs := #[.slice A39 n40 c41, .slice A42 n43 c44]) rfl (by kernel_rfl) (by kernel_rfl)) (by kernel_rfl) rfl rfl ?_
  refine W.sq (v := .slice A42 n43 c44) rfl (r_extract (vs := #[.slice A39 n40 c41, .slice A42 n43 c44]) rfl (by kernel_rfl) (by kernel_rfl)) (by kernel_rfl) rfl rfl ?_
  refine W.sq (v := .slice A39 n40 c41) rfl (r_assign rfl (by kernel_rfl)) (by kernel_rfl) rfl rfl ?_
  refine W.sq (v := .slice A42 n43 c44) rfl (r_assign rfl (by kernel_rfl)) (by kernel_rfl) rfl rfl ?_
  refine W.sch_end (l' := [.agg #[.int .i64 m, .slice A n c], .slice A2 n2 c2, .int .i64 a, .pointer (some ⟨b2, 0, none⟩), undef, undef, .slice none 0 0, .slice none 0 0, .slice A39 n40 c41, .slice A42 n43 c44, undef, undef, undef, undef, .tuple #[.slice A39 n40 c41, .slice A42 n43 c44], .agg #[.int .i64 m, .slice A n c], .slice A2 n2 c2, .int .i64 a, .slice (some ⟨b11, 0, none⟩) 1 1, .slice (some ⟨b19, 0, none⟩) 0 0, .tuple #[.slice A39 n40 c41, .slice A42 n43 c44], .slice A39 n40 c41, .slice A42 n43 c44, undef, undef, undef, undef, undef, undef, undef, undef, undef, undef, undef, undef, undef, undef, undef, undef, undef, undef, undef, undef, undef, undef, undef, undef, undef, undef, undef, undef, undef, undef, undef, undef, undef]) (by kernel_rfl) ?_
  have x6 := SG.blk s55 x6 (by simp)
  have c58 := (SG.belowR c9 s55 (fun kq e => by cases e))
  refine h2 _ _ ?_
  refine wp_seq_k (fun K3 h3 => ?_)
  refine W.region_plain (row := none) [(0, true), (1, true), (2, false), (3, false)] (by kernel_rfl) ?_
  have s59 := SG.self w54 none
  refine W.sn (fun b => .slice (some ⟨b, 0, none⟩) 0 0) #[] 3 s59 rfl (by kernel_rfl) rfl (fun _ => by kernel_rfl) (fun b60 w61 hb62 k63 x64 s65 => ?_)
  have lo66 : w.heap.size ≤ b60 := by have := ((SG.belowR c58 s59 (fun kq e => by cases e))).size; omega
  have sp67 : Sp A39 n40 (some b60) := sp_new rd45 (by have := World.grownBy.size s59; have := hb62; omega)
  have sp68 : Sp A42 n43 (some b60) := sp_new rd47 (by have := World.grownBy.size s59; have := hb62; omega)
  have sp69 : Sp (some ⟨b11, 0, none⟩) 1 (some b60) := sp_new rd56 (by have := World.grownBy.size s59; have := hb62; omega)
  have sp70 : Sp (some ⟨b19, 0, none⟩) 0 (some b60) := sp_new rd57 (by have := World.grownBy.size s59; have := hb62; omega)
  have ne71 : b2 ≠ b60 := by have := blk_lt x6; have := World.grownBy.size s59; omega
  refine W.sn (fun b => .slice (some ⟨b, 0, none⟩) 0 0) #[] 3 s65 rfl (by kernel_rfl) rfl (fun _ => by kernel_rfl) (fun b72 w73 hb74 k75 x76 s77 => ?_)
  have lo78 : w.heap.size ≤ b72 := by have := ((SG.belowR c58 s65 (fun kq e => by cases e))).size; omega
  have sp79 : Sp A39 n40 (some b72) := sp_new rd45 (by have := World.grownBy.size s65; have := hb74; omega)
  have sp80 : Sp A42 n43 (some b72) := sp_new rd47 (by have := World.grownBy.size s65; have := hb74; omega)
  have sp81 : Sp (some ⟨b11, 0, none⟩) 1 (some b72) := sp_new rd56 (by have := World.grownBy.size s65; have := hb74; omega)
  have sp82 : Sp (some ⟨b19, 0, none⟩) 0 (some b72) := sp_new rd57 (by have := World.grownBy.size s65; have := hb74; omega)
  have ne83 : b2 ≠ b72 := by have := blk_lt x6; have := World.grownBy.size s65; omega
  have ne84 : b60 ≠ b72 := by have := blk_lt x64; omega
  have x64 := (k75.block _ (blk_lt x64)).trans x64
  refine W.sq (v := .slice (some ⟨b60, 0, none⟩) 0 0) rfl (r_assign rfl (by kernel_rfl)) (by kernel_rfl) rfl rfl ?_
  refine W.sq (v := .slice (some ⟨b72, 0, none⟩) 0 0) rfl (r_assign rfl (by kernel_rfl)) (by kernel_rfl) rfl rfl ?_
  refine W.sch_end (l' := [.agg #[.int .i64 m, .slice A n c], .slice A2 n2 c2, .int .i64 a, .pointer (some ⟨b2, 0, none⟩), undef, undef, .slice none 0 0, .slice none 0 0, .slice A39 n40 c41, .slice A42 n43 c44, .slice (some ⟨b60, 0, none⟩) 0 0, .slice (some ⟨b72, 0, none⟩) 0 0, undef, undef, .tuple #[.slice A39 n40 c41, .slice A42 n43 c44], .agg #[.int .i64 m, .slice A n c], .slice A2 n2 c2, .int .i64 a, .slice (some ⟨b11, 0, none⟩) 1 1, .slice (some ⟨b19, 0, none⟩) 0 0, .tuple #[.slice A39 n40 c41, .slice A42 n43 c44], .slice A39 n40 c41, .slice A42 n43 c44, .slice (some ⟨b60, 0, none⟩) 0 0, .slice (some ⟨b72, 0, none⟩) 0 0, undef, undef, undef, undef, undef, undef, undef, undef, undef, undef, undef, undef, undef, undef, undef, undef, undef, undef, undef, undef, undef, undef, undef, undef, undef, undef, undef, undef, undef, undef, undef]) (by kernel_rfl) ?_
  have x6 := SG.blk s77 x6 (by simp)
  have c85 := (SG.belowR c58 s77 (fun kq e => by cases e))
  have rd86 := Rd.kept rd56 (SG.below s77)
  have rd87 := Rd.kept rd57 (SG.below s77)
  have rd88 := Rd.kept rd45 (SG.below s77)
  have rd89 := Rd.kept rd47 (SG.below s77)
  refine h3 _ _ ?_
  refine wp_seq_k (fun K4 h4 => ?_)
  refine wp_seq_k (fun K5 h5 => ?_)
  refine W.region_quiet [(0, false)] (by kernel_rfl) ?_
  refine W.sq (v := .int .i64 1) rfl (r_assign rfl (by kernel_rfl)) (by kernel_rfl) rfl rfl ?_
  refine W.sch_end (l' := [.agg #[.int .i64 m, .slice A n c], .slice A2 n2 c2, .int .i64 a, .pointer (some ⟨b2, 0, none⟩), undef, undef, .slice none 0 0, .slice none 0 0, .slice A39 n40 c41, .slice A42 n43 c44, .slice (some ⟨b60, 0, none⟩) 0 0, .slice (some ⟨b72, 0, none⟩) 0 0, .int .i64 1, undef, .tuple #[.slice A39 n40 c41, .slice A42 n43 c44], .agg #[.int .i64 m, .slice A n c], .slice A2 n2 c2, .int .i64 a, .slice (some ⟨b11, 0, none⟩) 1 1, .slice (some ⟨b19, 0, none⟩) 0 0, .tuple #[.slice A39 n40 c41, .slice A42 n43 c44], .slice A39 n40 c41, .slice A42 n43 c44, .slice (some ⟨b60, 0, none⟩) 0 0, .slice (some ⟨b72, 0, none⟩) 0 0, undef, undef, undef, undef, undef, undef, undef, undef, undef, undef, undef, undef, undef, undef, undef, undef, undef, undef, undef, undef, undef, undef, undef, undef, undef, undef, undef, undef, undef, undef, undef]) (by kernel_rfl) ?_
  refine h5 _ _ ?_
  refine wp_block ?_
  have ho90 := own_empty (base := w.heap.size) (size := 1) x64 lo66
  replace ho90 : World.ownsRow _ _ _ _ _ _ (intsV []) := ho90
  have sp91 := sp_own (n' := 0) (c := 0) sp67
  have sp92 := sp_own (n' := 0) (c := 0) sp68
  have sp93 := sp_own (n' := 0) (c := 0) sp69
  have sp94 := sp_own (n' := 0) (c := 0) sp70
  have nb95 : Nb b2 (.slice (some ⟨b60, 0, none⟩) 0 0) := nb_new (by have := ne71; omega)
  have nb96 : Nb b72 (.slice (some ⟨b60, 0, none⟩) 0 0) := nb_new (by have := ne84; omega)
  refine loopK (fun am0 aa0 wl0 => ∃ (j : Nat) (A0_10 : Option Addr) (n0_10 : Nat) (c0_10 : Nat) (U0 : Nat → Value), aa0 = ⟨[.agg #[.int .i64 m, .slice A n c], .slice A2 n2 c2, .int .i64 a, .pointer (some ⟨b2, 0, none⟩), undef, undef, .slice none 0 0, .slice none 0 0, .slice A39 n40 c41, .slice A42 n43 c44, .slice A0_10 n0_10 c0_10, .slice (some ⟨b72, 0, none⟩) 0 0, .int .i64 ((j + 1 : Nat) : Int), undef, .tuple #[.slice A39 n40 c41, .slice A42 n43 c44], .agg #[.int .i64 m, .slice A n c], .slice A2 n2 c2, .int .i64 a, .slice (some ⟨b11, 0, none⟩) 1 1, .slice (some ⟨b19, 0, none⟩) 0 0, .tuple #[.slice A39 n40 c41, .slice A42 n43 c44], .slice A39 n40 c41, .slice A42 n43 c44, .slice (some ⟨b60, 0, none⟩) 0 0, .slice (some ⟨b72, 0, none⟩) 0 0, U0 25, U0 26, U0 27, U0 28, U0 29, U0 30, U0 31, U0 32, U0 33, U0 34, U0 35, U0 36, U0 37, U0 38, undef, undef, undef, undef, undef, undef, undef, undef, undef, undef, undef, undef, undef, undef, undef, undef, undef].toArray, []⟩ ∧ (am0 = m.toNat - j) ∧ (j ≤ m.toNat) ∧ (n0_10 ≤ j) ∧ (wl0.heap[b2]? = some (.cells #[.int .i64 m, .slice A n c] 31 (0, 0))) ∧ (wl0.heap[b72]? = some (.cells #[] 3 (0, 0))) ∧ (wl0.ownsRow w.heap.size 3 1 (.slice A0_10 n0_10 c0_10) n0_10 (intsV (nodesL (linked ps (openQ vs true)) j a false))) ∧ (Nb b2 (.slice A0_10 n0_10 c0_10)) ∧ (Nb b72 (.slice A0_10 n0_10 c0_10)) ∧ (Rd wl0 1 A39 n40 (intsV (nodesL (linked ps (openQ vs true)) m.toNat a true))) ∧ (Rd wl0 1 A42 n43 (intsV (idxL (linked ps (openQ vs true)) ps.length a true))) ∧ (Sp A39 n40 (Value.ownBlock (.slice A0_10 n0_10 c0_10))) ∧ (Sp A42 n43 (Value.ownBlock (.slice A0_10 n0_10 c0_10))) ∧ (Below w.heap.size w wl0)) (m.toNat - 0) ?_ ?_
  · exact ⟨0, (some ⟨b60, 0, none⟩), 0, 0, (fun iU9 => [.agg #[.int .i64 m, .slice A n c], .slice A2 n2 c2, .int .i64 a, .pointer (some ⟨b2, 0, none⟩), undef, undef, .slice none 0 0, .slice none 0 0, .slice A39 n40 c41, .slice A42 n43 c44, .slice (some ⟨b60, 0, none⟩) 0 0, .slice (some ⟨b72, 0, none⟩) 0 0, .int .i64 1, undef, .tuple #[.slice A39 n40 c41, .slice A42 n43 c44], .agg #[.int .i64 m, .slice A n c], .slice A2 n2 c2, .int .i64 a, .slice (some ⟨b11, 0, none⟩) 1 1, .slice (some ⟨b19, 0, none⟩) 0 0, .tuple #[.slice A39 n40 c41, .slice A42 n43 c44], .slice A39 n40 c41, .slice A42 n43 c44, .slice (some ⟨b60, 0, none⟩) 0 0, .slice (some ⟨b72, 0, none⟩) 0 0, undef, undef, undef, undef, undef, undef, undef, undef, undef, undef, undef, undef, undef, undef, undef, undef, undef, undef, undef, undef, undef, undef, undef, undef, undef, undef, undef, undef, undef, undef, undef].getD iU9 undef), (by kernel_rfl), rfl, (Nat.zero_le _), (Nat.zero_le _), x6, x76, ho90, nb95, nb96, rd88, rd89, sp91, sp92, c85⟩
  rintro am0 aa0 wl0 K6 h6 ⟨j, A0_10, n0_10, c0_10, U0, rfl, rfl, hj, hb10, x6, x76, ho0_10, nb0_10_b2, nb0_10_b72, rd0_8, rd0_9, sp0_8_10, sp0_9_10, c97⟩
  refine wp_seq_k (fun K7 h7 => ?_)
  refine wp_seq_k (fun K8 h8 => ?_)
  refine W.region_quiet [(0, false), (1, false), (2, false), (3, false)] (by kernel_rfl) ?_
  refine W.sq (v := .int .i64 ((j + 1 : Nat) : Int)) rfl (r_move rfl (by kernel_rfl)) (by kernel_rfl) rfl rfl ?_
  refine W.sq (v := .pointer (some ⟨b2, 0, none⟩)) rfl (r_field0 rfl (by kernel_rfl) (by kernel_rfl)) (by kernel_rfl) rfl rfl ?_
  refine W.sq (v := .int .i64 m) rfl (r_load rfl (by kernel_rfl) (by kernel_rfl) (eqS (blk_cell (j := 0) x6 (by kernel_rfl)))) (by kernel_rfl) rfl rfl ?_
  by_cases q98 : (((j + 1 : Nat) : Int) : Int) ≤ (m : Int)
  · refine W.sq (v := .bool true) rfl (r_leq (m := ((j + 1 : Nat) : Int)) (n := m) rfl (by kernel_rfl) (by kernel_rfl) (decide_eq_true q98)) (by kernel_rfl) rfl rfl ?_
    refine W.sch_end (l' := [.agg #[.int .i64 m, .slice A n c], .slice A2 n2 c2, .int .i64 a, .pointer (some ⟨b2, 0, none⟩), undef, undef, .slice none 0 0, .slice none 0 0, .slice A39 n40 c41, .slice A42 n43 c44, .slice A0_10 n0_10 c0_10, .slice (some ⟨b72, 0, none⟩) 0 0, .int .i64 ((j + 1 : Nat) : Int), undef, .tuple #[.slice A39 n40 c41, .slice A42 n43 c44], .agg #[.int .i64 m, .slice A n c], .slice A2 n2 c2, .int .i64 a, .slice (some ⟨b11, 0, none⟩) 1 1, .slice (some ⟨b19, 0, none⟩) 0 0, .tuple #[.slice A39 n40 c41, .slice A42 n43 c44], .slice A39 n40 c41, .slice A42 n43 c44, .slice (some ⟨b60, 0, none⟩) 0 0, .slice (some ⟨b72, 0, none⟩) 0 0, .int .i64 ((j + 1 : Nat) : Int), .pointer (some ⟨b2, 0, none⟩), .int .i64 m, .bool true, (U0 29), (U0 30), (U0 31), (U0 32), (U0 33), (U0 34), (U0 35), (U0 36), (U0 37), (U0 38), undef, undef, undef, undef, undef, undef, undef, undef, undef, undef, undef, undef, undef, undef, undef, undef, undef]) (by kernel_rfl) ?_
    refine h8 _ _ ?_
    refine wp_cond_true (by kernel_rfl) ?_
    refine wp_skip ?_
    refine h7 _ _ ?_
    refine wp_seq_k (fun K9 h9 => ?_)
    refine wp_block ?_
    refine wp_seq_k (fun K10 h10 => ?_)
    refine W.region_plain (row := none) [(0, false), (1, false), (2, true), (3, false)] (by kernel_rfl) ?_
    have s99 := SG.self wl0 none
    refine W.sq (v := .slice A39 n40 c41) rfl (r_move rfl (by kernel_rfl)) (by kernel_rfl) rfl rfl ?_
    refine W.sq (v := .int .i64 ((j + 1 : Nat) : Int)) rfl (r_move rfl (by kernel_rfl)) (by kernel_rfl) rfl rfl ?_
    refine W.sc (vs := [.slice A39 n40 c41, .int .i64 ((j + 1 : Nat) : Int)]) rfl rfl (by kernel_rfl) (by kernel_rfl) (by kernel_rfl) rfl (l1Has_any A39 n40 c41 (nodesL (linked ps (openQ vs true)) m.toNat a true) ((j + 1 : Nat) : Int) _ (Rd.kept rd0_8 (SG.below s99)) (by omega)) ?_
    rintro e w101 ⟨rfl, b100⟩
    have s102 := SG.of_below s99 b100
    refine ⟨_, rfl, s102, ?_⟩
    have ho103 := own_kept ho0_10 b100
    rcases Bool.eq_false_or_eq_true ((nodesL (linked ps (openQ vs true)) m.toNat a true).contains ((j + 1 : Nat) : Int)) with q104 | q104
    · rw [q104]
      refine W.sq (v := .bool false) rfl (r_not (b := true) rfl (by kernel_rfl) rfl) (by kernel_rfl) rfl rfl ?_
      refine W.sch_end (l' := [.agg #[.int .i64 m, .slice A n c], .slice A2 n2 c2, .int .i64 a, .pointer (some ⟨b2, 0, none⟩), undef, undef, .slice none 0 0, .slice none 0 0, .slice A39 n40 c41, .slice A42 n43 c44, .slice A0_10 n0_10 c0_10, .slice (some ⟨b72, 0, none⟩) 0 0, .int .i64 ((j + 1 : Nat) : Int), undef, .tuple #[.slice A39 n40 c41, .slice A42 n43 c44], .agg #[.int .i64 m, .slice A n c], .slice A2 n2 c2, .int .i64 a, .slice (some ⟨b11, 0, none⟩) 1 1, .slice (some ⟨b19, 0, none⟩) 0 0, .tuple #[.slice A39 n40 c41, .slice A42 n43 c44], .slice A39 n40 c41, .slice A42 n43 c44, .slice (some ⟨b60, 0, none⟩) 0 0, .slice (some ⟨b72, 0, none⟩) 0 0, .int .i64 ((j + 1 : Nat) : Int), .pointer (some ⟨b2, 0, none⟩), .int .i64 m, .bool true, (U0 29), (U0 30), .slice A39 n40 c41, .int .i64 ((j + 1 : Nat) : Int), .bool true, .bool false, (U0 35), (U0 36), (U0 37), (U0 38), undef, undef, undef, undef, undef, undef, undef, undef, undef, undef, undef, undef, undef, undef, undef, undef, undef]) (by kernel_rfl) ?_
      have x6 := SG.blk s102 x6 (by simp)
      have x76 := SG.blk s102 x76 (by simp)
      have c105 := (SG.belowR c97 s102 (fun kq e => by cases e))
      have rd106 := Rd.kept rd0_8 (SG.below s102)
      have rd107 := Rd.kept rd0_9 (SG.below s102)
      refine h10 _ _ ?_
      refine wp_cond_false (by kernel_rfl) ?_
      refine wp_skip ?_
      refine h9 _ _ ?_
      refine W.region_quiet [(0, false), (1, false), (2, false)] (by kernel_rfl) ?_
      refine W.sq (v := .int .i64 ((j + 1 : Nat) : Int)) rfl (r_move rfl (by kernel_rfl)) (by kernel_rfl) rfl rfl ?_
      refine W.sq (v := .int .i64 ((j + 1 + 1 : Nat) : Int)) rfl (r_add (m := ((j + 1 : Nat) : Int)) (n := 1) (z := ((j + 1 + 1 : Nat) : Int)) rfl (by kernel_rfl) (by kernel_rfl) (by omega) (by omega)) (by kernel_rfl) rfl rfl ?_
      refine W.sq (v := .int .i64 ((j + 1 + 1 : Nat) : Int)) rfl (r_assign rfl (by kernel_rfl)) (by kernel_rfl) rfl rfl ?_
      refine W.sch_end (l' := [.agg #[.int .i64 m, .slice A n c], .slice A2 n2 c2, .int .i64 a, .pointer (some ⟨b2, 0, none⟩), undef, undef, .slice none 0 0, .slice none 0 0, .slice A39 n40 c41, .slice A42 n43 c44, .slice A0_10 n0_10 c0_10, .slice (some ⟨b72, 0, none⟩) 0 0, .int .i64 ((j + 1 + 1 : Nat) : Int), undef, .tuple #[.slice A39 n40 c41, .slice A42 n43 c44], .agg #[.int .i64 m, .slice A n c], .slice A2 n2 c2, .int .i64 a, .slice (some ⟨b11, 0, none⟩) 1 1, .slice (some ⟨b19, 0, none⟩) 0 0, .tuple #[.slice A39 n40 c41, .slice A42 n43 c44], .slice A39 n40 c41, .slice A42 n43 c44, .slice (some ⟨b60, 0, none⟩) 0 0, .slice (some ⟨b72, 0, none⟩) 0 0, .int .i64 ((j + 1 : Nat) : Int), .pointer (some ⟨b2, 0, none⟩), .int .i64 m, .bool true, .int .i64 ((j + 1 : Nat) : Int), .int .i64 ((j + 1 + 1 : Nat) : Int), .slice A39 n40 c41, .int .i64 ((j + 1 : Nat) : Int), .bool true, .bool false, (U0 35), (U0 36), (U0 37), (U0 38), undef, undef, undef, undef, undef, undef, undef, undef, undef, undef, undef, undef, undef, undef, undef, undef, undef]) (by kernel_rfl) ?_
      exact h6 _ _ _ (by omega : (m.toNat - (j + 1)) < _) ⟨j + 1, A0_10, n0_10, c0_10, (fun iU9 => [.agg #[.int .i64 m, .slice A n c], .slice A2 n2 c2, .int .i64 a, .pointer (some ⟨b2, 0, none⟩), undef, undef, .slice none 0 0, .slice none 0 0, .slice A39 n40 c41, .slice A42 n43 c44, .slice A0_10 n0_10 c0_10, .slice (some ⟨b72, 0, none⟩) 0 0, .int .i64 ((j + 1 + 1 : Nat) : Int), undef, .tuple #[.slice A39 n40 c41, .slice A42 n43 c44], .agg #[.int .i64 m, .slice A n c], .slice A2 n2 c2, .int .i64 a, .slice (some ⟨b11, 0, none⟩) 1 1, .slice (some ⟨b19, 0, none⟩) 0 0, .tuple #[.slice A39 n40 c41, .slice A42 n43 c44], .slice A39 n40 c41, .slice A42 n43 c44, .slice (some ⟨b60, 0, none⟩) 0 0, .slice (some ⟨b72, 0, none⟩) 0 0, .int .i64 ((j + 1 : Nat) : Int), .pointer (some ⟨b2, 0, none⟩), .int .i64 m, .bool true, .int .i64 ((j + 1 : Nat) : Int), .int .i64 ((j + 1 + 1 : Nat) : Int), .slice A39 n40 c41, .int .i64 ((j + 1 : Nat) : Int), .bool true, .bool false, (U0 35), (U0 36), (U0 37), (U0 38), undef, undef, undef, undef, undef, undef, undef, undef, undef, undef, undef, undef, undef, undef, undef, undef, undef].getD iU9 undef), (by kernel_rfl), rfl, (by omega), (by omega), x6, x76, (by rw [nodesL_no (ne_of_not (by rw [show rb (linked ps (openQ vs true)) a ((j : Int) + 1) = true from (nodesL_has (by omega : 1 ≤ ((j + 1 : Nat) : Int) ∧ ((j + 1 : Nat) : Int) ≤ m.toNat)).symm.trans q104]; rfl))]; exact ho103), nb0_10_b2, nb0_10_b72, rd106, rd107, sp0_8_10, sp0_9_10, c105⟩
    · rw [q104]
      refine W.sq (v := .bool true) rfl (r_not (b := false) rfl (by kernel_rfl) rfl) (by kernel_rfl) rfl rfl ?_
      refine W.sch_end (l' := [.agg #[.int .i64 m, .slice A n c], .slice A2 n2 c2, .int .i64 a, .pointer (some ⟨b2, 0, none⟩), undef, undef, .slice none 0 0, .slice none 0 0, .slice A39 n40 c41, .slice A42 n43 c44, .slice A0_10 n0_10 c0_10, .slice (some ⟨b72, 0, none⟩) 0 0, .int .i64 ((j + 1 : Nat) : Int), undef, .tuple #[.slice A39 n40 c41, .slice A42 n43 c44], .agg #[.int .i64 m, .slice A n c], .slice A2 n2 c2, .int .i64 a, .slice (some ⟨b11, 0, none⟩) 1 1, .slice (some ⟨b19, 0, none⟩) 0 0, .tuple #[.slice A39 n40 c41, .slice A42 n43 c44], .slice A39 n40 c41, .slice A42 n43 c44, .slice (some ⟨b60, 0, none⟩) 0 0, .slice (some ⟨b72, 0, none⟩) 0 0, .int .i64 ((j + 1 : Nat) : Int), .pointer (some ⟨b2, 0, none⟩), .int .i64 m, .bool true, (U0 29), (U0 30), .slice A39 n40 c41, .int .i64 ((j + 1 : Nat) : Int), .bool false, .bool true, (U0 35), (U0 36), (U0 37), (U0 38), undef, undef, undef, undef, undef, undef, undef, undef, undef, undef, undef, undef, undef, undef, undef, undef, undef]) (by kernel_rfl) ?_
      have x6 := SG.blk s102 x6 (by simp)
      have x76 := SG.blk s102 x76 (by simp)
      have c108 := (SG.belowR c97 s102 (fun kq e => by cases e))
      have rd109 := Rd.kept rd0_8 (SG.below s102)
      have rd110 := Rd.kept rd0_9 (SG.below s102)
      refine h10 _ _ ?_
      refine wp_cond_true (by kernel_rfl) ?_
      refine W.region_plain (row := (Value.ownBlock (.slice A0_10 n0_10 c0_10))) [(0, false), (1, false), (2, true), (3, true), (4, false)] (by kernel_rfl) ?_
      have s111 := SG.self w101 (Value.ownBlock (.slice A0_10 n0_10 c0_10))
      refine W.sq (v := .slice A0_10 n0_10 c0_10) rfl (r_move rfl (by kernel_rfl)) (by kernel_rfl) rfl rfl ?_
      refine W.sq (v := .int .i64 ((j + 1 : Nat) : Int)) rfl (r_move rfl (by kernel_rfl)) (by kernel_rfl) rfl rfl ?_
      refine W.sn (fun b => .slice (some ⟨b, 0, none⟩) 1 1) #[.int .i64 ((j + 1 : Nat) : Int)] 3 s111 rfl (by kernel_rfl) rfl (fun _ => by kernel_rfl) (fun b112 w113 hb114 k115 x116 s117 => ?_)
      have lo118 : w.heap.size ≤ b112 := by have := ((SG.belowR c108 s111 (fun kq e => (World.ownsRow.lt ho103 kq e).1))).size; omega
      have sp119 : Sp A39 n40 (some b112) := sp_new rd109 (by have := World.grownBy.size s111; have := hb114; omega)
      have sp120 : Sp A42 n43 (some b112) := sp_new rd110 (by have := World.grownBy.size s111; have := hb114; omega)
      have ne121 : b2 ≠ b112 := by have := blk_lt x6; have := World.grownBy.size s111; omega
      have ne122 : b72 ≠ b112 := by have := blk_lt x76; have := World.grownBy.size s111; omega
      have nb123 : Nb b112 (.slice A0_10 n0_10 c0_10) := nb_hi ho103 (Nat.le_of_eq hb114)
      have ho124 := own_kept ho103 k115
      refine W.sap (e := 3) (size := 1) (base := w.heap.size) (m := 1) (v := .slice A0_10 n0_10 c0_10) (c := 1) s117 rfl rfl rfl rfl (by kernel_rfl) (by kernel_rfl) (by kernel_rfl) ho124 x116 (by kernel_rfl) (by kernel_rfl) (by omega) (by omega) (by have := ((SG.belowR c108 s117 (fun kq e => (World.ownsRow.lt ho103 kq e).1))).size; omega) (.inl rfl) (fun g125 cap126 w127 ho128 hg129 hat130 hlt131 s132 => ?_)
      have nb133 : Nb b2 (.slice (some ⟨g125, 0, none⟩) (n0_10 + 1) cap126) := nb_app nb0_10_b2 (Nat.lt_of_lt_of_le (blk_lt x6) (World.grownBy.size s117)) hat130
      have nb134 : Nb b72 (.slice (some ⟨g125, 0, none⟩) (n0_10 + 1) cap126) := nb_app nb0_10_b72 (Nat.lt_of_lt_of_le (blk_lt x76) (World.grownBy.size s117)) hat130
      have nb135 : Nb b112 (.slice (some ⟨g125, 0, none⟩) (n0_10 + 1) cap126) := nb_app nb123 (blk_lt x116) hat130
      have x116 := (hg129.block _ (blk_lt x116) nb123).trans x116
      have ho128 := own_snoc ho128
      have sp136 := sp_app (v' := .slice (some ⟨g125, 0, none⟩) (n0_10 + 1) cap126) sp0_8_10 rd109 (World.grownBy.size s117) (hat3 (v := .slice A0_10 n0_10 c0_10) hat130)
      have sp137 := sp_app (v' := .slice (some ⟨g125, 0, none⟩) (n0_10 + 1) cap126) sp0_9_10 rd110 (World.grownBy.size s117) (hat3 (v := .slice A0_10 n0_10 c0_10) hat130)
      refine W.sq (v := .slice (some ⟨g125, 0, none⟩) (n0_10 + 1) cap126) rfl (r_assign rfl (by kernel_rfl)) (by kernel_rfl) rfl rfl ?_
      refine W.sch_end (l' := [.agg #[.int .i64 m, .slice A n c], .slice A2 n2 c2, .int .i64 a, .pointer (some ⟨b2, 0, none⟩), undef, undef, .slice none 0 0, .slice none 0 0, .slice A39 n40 c41, .slice A42 n43 c44, .slice (some ⟨g125, 0, none⟩) (n0_10 + 1) cap126, .slice (some ⟨b72, 0, none⟩) 0 0, .int .i64 ((j + 1 : Nat) : Int), undef, .tuple #[.slice A39 n40 c41, .slice A42 n43 c44], .agg #[.int .i64 m, .slice A n c], .slice A2 n2 c2, .int .i64 a, .slice (some ⟨b11, 0, none⟩) 1 1, .slice (some ⟨b19, 0, none⟩) 0 0, .tuple #[.slice A39 n40 c41, .slice A42 n43 c44], .slice A39 n40 c41, .slice A42 n43 c44, .slice (some ⟨b60, 0, none⟩) 0 0, .slice (some ⟨b72, 0, none⟩) 0 0, .int .i64 ((j + 1 : Nat) : Int), .pointer (some ⟨b2, 0, none⟩), .int .i64 m, .bool true, (U0 29), (U0 30), .slice A39 n40 c41, .int .i64 ((j + 1 : Nat) : Int), .bool false, .bool true, .slice A0_10 n0_10 c0_10, .int .i64 ((j + 1 : Nat) : Int), .slice (some ⟨b112, 0, none⟩) 1 1, .slice (some ⟨g125, 0, none⟩) (n0_10 + 1) cap126, undef, undef, undef, undef, undef, undef, undef, undef, undef, undef, undef, undef, undef, undef, undef, undef, undef]) (by kernel_rfl) ?_
      have x6 := SG.blk s132 x6 nb0_10_b2
      have x76 := SG.blk s132 x76 nb0_10_b72
      have c138 := (SG.belowR c108 s132 (fun kq e => (World.ownsRow.lt ho103 kq e).1))
      have rd139 := rd_sep rd109 s132 sp0_8_10
      have rd140 := rd_sep rd110 s132 sp0_9_10
      refine h9 _ _ ?_
      refine W.region_quiet [(0, false), (1, false), (2, false)] (by kernel_rfl) ?_
      refine W.sq (v := .int .i64 ((j + 1 : Nat) : Int)) rfl (r_move rfl (by kernel_rfl)) (by kernel_rfl) rfl rfl ?_
      refine W.sq (v := .int .i64 ((j + 1 + 1 : Nat) : Int)) rfl (r_add (m := ((j + 1 : Nat) : Int)) (n := 1) (z := ((j + 1 + 1 : Nat) : Int)) rfl (by kernel_rfl) (by kernel_rfl) (by omega) (by omega)) (by kernel_rfl) rfl rfl ?_
      refine W.sq (v := .int .i64 ((j + 1 + 1 : Nat) : Int)) rfl (r_assign rfl (by kernel_rfl)) (by kernel_rfl) rfl rfl ?_
      refine W.sch_end (l' := [.agg #[.int .i64 m, .slice A n c], .slice A2 n2 c2, .int .i64 a, .pointer (some ⟨b2, 0, none⟩), undef, undef, .slice none 0 0, .slice none 0 0, .slice A39 n40 c41, .slice A42 n43 c44, .slice (some ⟨g125, 0, none⟩) (n0_10 + 1) cap126, .slice (some ⟨b72, 0, none⟩) 0 0, .int .i64 ((j + 1 + 1 : Nat) : Int), undef, .tuple #[.slice A39 n40 c41, .slice A42 n43 c44], .agg #[.int .i64 m, .slice A n c], .slice A2 n2 c2, .int .i64 a, .slice (some ⟨b11, 0, none⟩) 1 1, .slice (some ⟨b19, 0, none⟩) 0 0, .tuple #[.slice A39 n40 c41, .slice A42 n43 c44], .slice A39 n40 c41, .slice A42 n43 c44, .slice (some ⟨b60, 0, none⟩) 0 0, .slice (some ⟨b72, 0, none⟩) 0 0, .int .i64 ((j + 1 : Nat) : Int), .pointer (some ⟨b2, 0, none⟩), .int .i64 m, .bool true, .int .i64 ((j + 1 : Nat) : Int), .int .i64 ((j + 1 + 1 : Nat) : Int), .slice A39 n40 c41, .int .i64 ((j + 1 : Nat) : Int), .bool false, .bool true, .slice A0_10 n0_10 c0_10, .int .i64 ((j + 1 : Nat) : Int), .slice (some ⟨b112, 0, none⟩) 1 1, .slice (some ⟨g125, 0, none⟩) (n0_10 + 1) cap126, undef, undef, undef, undef, undef, undef, undef, undef, undef, undef, undef, undef, undef, undef, undef, undef, undef]) (by kernel_rfl) ?_
      exact h6 _ _ _ (by omega : (m.toNat - (j + 1)) < _) ⟨j + 1, (some ⟨g125, 0, none⟩), (n0_10 + 1), cap126, (fun iU9 => [.agg #[.int .i64 m, .slice A n c], .slice A2 n2 c2, .int .i64 a, .pointer (some ⟨b2, 0, none⟩), undef, undef, .slice none 0 0, .slice none 0 0, .slice A39 n40 c41, .slice A42 n43 c44, .slice (some ⟨g125, 0, none⟩) (n0_10 + 1) cap126, .slice (some ⟨b72, 0, none⟩) 0 0, .int .i64 ((j + 1 + 1 : Nat) : Int), undef, .tuple #[.slice A39 n40 c41, .slice A42 n43 c44], .agg #[.int .i64 m, .slice A n c], .slice A2 n2 c2, .int .i64 a, .slice (some ⟨b11, 0, none⟩) 1 1, .slice (some ⟨b19, 0, none⟩) 0 0, .tuple #[.slice A39 n40 c41, .slice A42 n43 c44], .slice A39 n40 c41, .slice A42 n43 c44, .slice (some ⟨b60, 0, none⟩) 0 0, .slice (some ⟨b72, 0, none⟩) 0 0, .int .i64 ((j + 1 : Nat) : Int), .pointer (some ⟨b2, 0, none⟩), .int .i64 m, .bool true, .int .i64 ((j + 1 : Nat) : Int), .int .i64 ((j + 1 + 1 : Nat) : Int), .slice A39 n40 c41, .int .i64 ((j + 1 : Nat) : Int), .bool false, .bool true, .slice A0_10 n0_10 c0_10, .int .i64 ((j + 1 : Nat) : Int), .slice (some ⟨b112, 0, none⟩) 1 1, .slice (some ⟨g125, 0, none⟩) (n0_10 + 1) cap126, undef, undef, undef, undef, undef, undef, undef, undef, undef, undef, undef, undef, undef, undef, undef, undef, undef].getD iU9 undef), (by kernel_rfl), rfl, (by omega), (by omega), x6, x76, (by rw [nodesL_yes ((nodesL_has (by omega : 1 ≤ ((j + 1 : Nat) : Int) ∧ ((j + 1 : Nat) : Int) ≤ m.toNat)).symm.trans q104)]; exact ho128), nb133, nb134, rd139, rd140, sp136, sp137, c138⟩
  · refine W.sq (v := .bool false) rfl (r_leq (m := ((j + 1 : Nat) : Int)) (n := m) rfl (by kernel_rfl) (by kernel_rfl) (decide_eq_false q98)) (by kernel_rfl) rfl rfl ?_
    refine W.sch_end (l' := [.agg #[.int .i64 m, .slice A n c], .slice A2 n2 c2, .int .i64 a, .pointer (some ⟨b2, 0, none⟩), undef, undef, .slice none 0 0, .slice none 0 0, .slice A39 n40 c41, .slice A42 n43 c44, .slice A0_10 n0_10 c0_10, .slice (some ⟨b72, 0, none⟩) 0 0, .int .i64 ((j + 1 : Nat) : Int), undef, .tuple #[.slice A39 n40 c41, .slice A42 n43 c44], .agg #[.int .i64 m, .slice A n c], .slice A2 n2 c2, .int .i64 a, .slice (some ⟨b11, 0, none⟩) 1 1, .slice (some ⟨b19, 0, none⟩) 0 0, .tuple #[.slice A39 n40 c41, .slice A42 n43 c44], .slice A39 n40 c41, .slice A42 n43 c44, .slice (some ⟨b60, 0, none⟩) 0 0, .slice (some ⟨b72, 0, none⟩) 0 0, .int .i64 ((j + 1 : Nat) : Int), .pointer (some ⟨b2, 0, none⟩), .int .i64 m, .bool false, (U0 29), (U0 30), (U0 31), (U0 32), (U0 33), (U0 34), (U0 35), (U0 36), (U0 37), (U0 38), undef, undef, undef, undef, undef, undef, undef, undef, undef, undef, undef, undef, undef, undef, undef, undef, undef]) (by kernel_rfl) ?_
    refine h8 _ _ ?_
    refine wp_cond_false (by kernel_rfl) ?_
    refine wp_exit ?_
    refine h4 _ _ ?_
    refine wp_seq_k (fun K11 h11 => ?_)
    refine wp_seq_k (fun K12 h12 => ?_)
    refine W.region_quiet [(0, false)] (by kernel_rfl) ?_
    refine W.sq (v := .int .i64 0) rfl (r_assign rfl (by kernel_rfl)) (by kernel_rfl) rfl rfl ?_
    refine W.sch_end (l' := [.agg #[.int .i64 m, .slice A n c], .slice A2 n2 c2, .int .i64 a, .pointer (some ⟨b2, 0, none⟩), undef, undef, .slice none 0 0, .slice none 0 0, .slice A39 n40 c41, .slice A42 n43 c44, .slice A0_10 n0_10 c0_10, .slice (some ⟨b72, 0, none⟩) 0 0, .int .i64 ((j + 1 : Nat) : Int), .int .i64 0, .tuple #[.slice A39 n40 c41, .slice A42 n43 c44], .agg #[.int .i64 m, .slice A n c], .slice A2 n2 c2, .int .i64 a, .slice (some ⟨b11, 0, none⟩) 1 1, .slice (some ⟨b19, 0, none⟩) 0 0, .tuple #[.slice A39 n40 c41, .slice A42 n43 c44], .slice A39 n40 c41, .slice A42 n43 c44, .slice (some ⟨b60, 0, none⟩) 0 0, .slice (some ⟨b72, 0, none⟩) 0 0, .int .i64 ((j + 1 : Nat) : Int), .pointer (some ⟨b2, 0, none⟩), .int .i64 m, .bool false, (U0 29), (U0 30), (U0 31), (U0 32), (U0 33), (U0 34), (U0 35), (U0 36), (U0 37), (U0 38), undef, undef, undef, undef, undef, undef, undef, undef, undef, undef, undef, undef, undef, undef, undef, undef, undef]) (by kernel_rfl) ?_
    refine h12 _ _ ?_
    refine wp_block ?_
    have ho141 := own_empty (base := w.heap.size) (size := 1) x76 lo78
    replace ho141 : World.ownsRow _ _ _ _ _ _ (intsV []) := ho141
    have nr142 : NbR (.slice (some ⟨b72, 0, none⟩) 0 0) (.slice A0_10 n0_10 c0_10) := nbr_new nb0_10_b72
    have sp143 := sp_own (n' := 0) (c := 0) sp79
    have sp144 := sp_own (n' := 0) (c := 0) sp80
    have nb145 : Nb b2 (.slice (some ⟨b72, 0, none⟩) 0 0) := nb_new (by have := ne83; omega)
    refine loopK (fun am1 aa1 wl1 => ∃ (i : Nat) (A1_11 : Option Addr) (n1_11 : Nat) (c1_11 : Nat) (U1 : Nat → Value), aa1 = ⟨[.agg #[.int .i64 m, .slice A n c], .slice A2 n2 c2, .int .i64 a, .pointer (some ⟨b2, 0, none⟩), undef, undef, .slice none 0 0, .slice none 0 0, .slice A39 n40 c41, .slice A42 n43 c44, .slice A0_10 n0_10 c0_10, .slice A1_11 n1_11 c1_11, .int .i64 ((j + 1 : Nat) : Int), .int .i64 ((i : Nat) : Int), .tuple #[.slice A39 n40 c41, .slice A42 n43 c44], .agg #[.int .i64 m, .slice A n c], .slice A2 n2 c2, .int .i64 a, .slice (some ⟨b11, 0, none⟩) 1 1, .slice (some ⟨b19, 0, none⟩) 0 0, .tuple #[.slice A39 n40 c41, .slice A42 n43 c44], .slice A39 n40 c41, .slice A42 n43 c44, .slice (some ⟨b60, 0, none⟩) 0 0, .slice (some ⟨b72, 0, none⟩) 0 0, .int .i64 ((j + 1 : Nat) : Int), .pointer (some ⟨b2, 0, none⟩), .int .i64 m, .bool false, (U0 29), (U0 30), (U0 31), (U0 32), (U0 33), (U0 34), (U0 35), (U0 36), (U0 37), (U0 38), U1 39, U1 40, U1 41, U1 42, U1 43, U1 44, U1 45, U1 46, U1 47, U1 48, U1 49, U1 50, U1 51, U1 52, U1 53, undef, undef].toArray, []⟩ ∧ (am1 = n - i) ∧ (i ≤ n) ∧ (n1_11 ≤ i) ∧ (wl1.heap[b2]? = some (.cells #[.int .i64 m, .slice A n c] 31 (0, 0))) ∧ (wl1.ownsRow w.heap.size 3 1 (.slice A0_10 n0_10 c0_10) n0_10 (intsV (nodesL (linked ps (openQ vs true)) m.toNat a false))) ∧ (wl1.ownsRow w.heap.size 3 1 (.slice A1_11 n1_11 c1_11) n1_11 (intsV (idxL (linked ps (openQ vs true)) i a false))) ∧ (Nb b2 (.slice A1_11 n1_11 c1_11)) ∧ (NbR (.slice A1_11 n1_11 c1_11) (.slice A0_10 n0_10 c0_10)) ∧ (Rd wl1 1 A42 n43 (intsV (idxL (linked ps (openQ vs true)) ps.length a true))) ∧ (Sp A42 n43 (Value.ownBlock (.slice A1_11 n1_11 c1_11))) ∧ (Below w.heap.size w wl1)) (n - 0) ?_ ?_
    · exact ⟨0, (some ⟨b72, 0, none⟩), 0, 0, (fun iU9 => [.agg #[.int .i64 m, .slice A n c], .slice A2 n2 c2, .int .i64 a, .pointer (some ⟨b2, 0, none⟩), undef, undef, .slice none 0 0, .slice none 0 0, .slice A39 n40 c41, .slice A42 n43 c44, .slice A0_10 n0_10 c0_10, .slice (some ⟨b72, 0, none⟩) 0 0, .int .i64 ((j + 1 : Nat) : Int), .int .i64 0, .tuple #[.slice A39 n40 c41, .slice A42 n43 c44], .agg #[.int .i64 m, .slice A n c], .slice A2 n2 c2, .int .i64 a, .slice (some ⟨b11, 0, none⟩) 1 1, .slice (some ⟨b19, 0, none⟩) 0 0, .tuple #[.slice A39 n40 c41, .slice A42 n43 c44], .slice A39 n40 c41, .slice A42 n43 c44, .slice (some ⟨b60, 0, none⟩) 0 0, .slice (some ⟨b72, 0, none⟩) 0 0, .int .i64 ((j + 1 : Nat) : Int), .pointer (some ⟨b2, 0, none⟩), .int .i64 m, .bool false, (U0 29), (U0 30), (U0 31), (U0 32), (U0 33), (U0 34), (U0 35), (U0 36), (U0 37), (U0 38), undef, undef, undef, undef, undef, undef, undef, undef, undef, undef, undef, undef, undef, undef, undef, undef, undef].getD iU9 undef), (by kernel_rfl), rfl, (Nat.zero_le _), (Nat.zero_le _), x6, (by rw [show m.toNat = j by omega]; exact ho0_10), ho141, nb145, nr142, rd0_9, sp144, c97⟩
    rintro am1 aa1 wl1 K13 h13 ⟨i, A1_11, n1_11, c1_11, U1, rfl, rfl, hi, hb11, x6, ho1_10, ho1_11, nb1_11_b2, nr1_1_0, rd1_9, sp1_9_11, c146⟩
    refine wp_seq_k (fun K14 h14 => ?_)
    refine wp_seq_k (fun K15 h15 => ?_)
    refine W.region_quiet [(0, false), (1, false), (2, false), (3, false), (4, false)] (by kernel_rfl) ?_
    refine W.sq (v := .int .i64 ((i : Nat) : Int)) rfl (r_move rfl (by kernel_rfl)) (by kernel_rfl) rfl rfl ?_
    refine W.sq (v := .pointer (some ⟨b2, 1, none⟩)) rfl (r_field (k := 1) rfl (by kernel_rfl) (by kernel_rfl)) (by kernel_rfl) rfl rfl ?_
    refine W.sq (v := .slice A n c) rfl (r_load rfl (by kernel_rfl) (by kernel_rfl) (eqS (blk_cell (j := 1) x6 (by kernel_rfl)))) (by kernel_rfl) rfl rfl ?_
    refine W.sq (v := .int .i64 ((n : Nat) : Int)) rfl (r_len (A := A) (n := n) (c := c) rfl (by kernel_rfl) (by kernel_rfl)) (by kernel_rfl) rfl rfl ?_
    by_cases q147 : (((i : Nat) : Int) : Int) < (((n : Nat) : Int) : Int)
    · refine W.sq (v := .bool true) rfl (r_lss (m := ((i : Nat) : Int)) (n := ((n : Nat) : Int)) rfl (by kernel_rfl) (by kernel_rfl) (decide_eq_true q147)) (by kernel_rfl) rfl rfl ?_
      refine W.sch_end (l' := [.agg #[.int .i64 m, .slice A n c], .slice A2 n2 c2, .int .i64 a, .pointer (some ⟨b2, 0, none⟩), undef, undef, .slice none 0 0, .slice none 0 0, .slice A39 n40 c41, .slice A42 n43 c44, .slice A0_10 n0_10 c0_10, .slice A1_11 n1_11 c1_11, .int .i64 ((j + 1 : Nat) : Int), .int .i64 ((i : Nat) : Int), .tuple #[.slice A39 n40 c41, .slice A42 n43 c44], .agg #[.int .i64 m, .slice A n c], .slice A2 n2 c2, .int .i64 a, .slice (some ⟨b11, 0, none⟩) 1 1, .slice (some ⟨b19, 0, none⟩) 0 0, .tuple #[.slice A39 n40 c41, .slice A42 n43 c44], .slice A39 n40 c41, .slice A42 n43 c44, .slice (some ⟨b60, 0, none⟩) 0 0, .slice (some ⟨b72, 0, none⟩) 0 0, .int .i64 ((j + 1 : Nat) : Int), .pointer (some ⟨b2, 0, none⟩), .int .i64 m, .bool false, (U0 29), (U0 30), (U0 31), (U0 32), (U0 33), (U0 34), (U0 35), (U0 36), (U0 37), (U0 38), .int .i64 ((i : Nat) : Int), .pointer (some ⟨b2, 1, none⟩), .slice A n c, .int .i64 ((n : Nat) : Int), .bool true, (U1 44), (U1 45), (U1 46), (U1 47), (U1 48), (U1 49), (U1 50), (U1 51), (U1 52), (U1 53), undef, undef]) (by kernel_rfl) ?_
      refine h15 _ _ ?_
      refine wp_cond_true (by kernel_rfl) ?_
      refine wp_skip ?_
      refine h14 _ _ ?_
      refine wp_seq_k (fun K16 h16 => ?_)
      refine wp_block ?_
      refine wp_seq_k (fun K17 h17 => ?_)
      refine W.region_plain (row := none) [(0, false), (1, false), (2, true), (3, false)] (by kernel_rfl) ?_
      have s148 := SG.self wl1 none
      refine W.sq (v := .slice A42 n43 c44) rfl (r_move rfl (by kernel_rfl)) (by kernel_rfl) rfl rfl ?_
      refine W.sq (v := .int .i64 ((i : Nat) : Int)) rfl (r_move rfl (by kernel_rfl)) (by kernel_rfl) rfl rfl ?_
      refine W.sc (vs := [.slice A42 n43 c44, .int .i64 ((i : Nat) : Int)]) rfl rfl (by kernel_rfl) (by kernel_rfl) (by kernel_rfl) rfl (l1Has_any A42 n43 c44 (idxL (linked ps (openQ vs true)) ps.length a true) ((i : Nat) : Int) _ (Rd.kept rd1_9 (SG.below s148)) (by omega)) ?_
      rintro e w150 ⟨rfl, b149⟩
      have s151 := SG.of_below s148 b149
      refine ⟨_, rfl, s151, ?_⟩
      have ho152 := own_kept ho1_10 b149
      have ho153 := own_kept ho1_11 b149
      rcases Bool.eq_false_or_eq_true ((idxL (linked ps (openQ vs true)) ps.length a true).contains ((i : Nat) : Int)) with q154 | q154
      · rw [q154]
        refine W.sq (v := .bool false) rfl (r_not (b := true) rfl (by kernel_rfl) rfl) (by kernel_rfl) rfl rfl ?_
        refine W.sch_end (l' := [.agg #[.int .i64 m, .slice A n c], .slice A2 n2 c2, .int .i64 a, .pointer (some ⟨b2, 0, none⟩), undef, undef, .slice none 0 0, .slice none 0 0, .slice A39 n40 c41, .slice A42 n43 c44, .slice A0_10 n0_10 c0_10, .slice A1_11 n1_11 c1_11, .int .i64 ((j + 1 : Nat) : Int), .int .i64 ((i : Nat) : Int), .tuple #[.slice A39 n40 c41, .slice A42 n43 c44], .agg #[.int .i64 m, .slice A n c], .slice A2 n2 c2, .int .i64 a, .slice (some ⟨b11, 0, none⟩) 1 1, .slice (some ⟨b19, 0, none⟩) 0 0, .tuple #[.slice A39 n40 c41, .slice A42 n43 c44], .slice A39 n40 c41, .slice A42 n43 c44, .slice (some ⟨b60, 0, none⟩) 0 0, .slice (some ⟨b72, 0, none⟩) 0 0, .int .i64 ((j + 1 : Nat) : Int), .pointer (some ⟨b2, 0, none⟩), .int .i64 m, .bool false, (U0 29), (U0 30), (U0 31), (U0 32), (U0 33), (U0 34), (U0 35), (U0 36), (U0 37), (U0 38), .int .i64 ((i : Nat) : Int), .pointer (some ⟨b2, 1, none⟩), .slice A n c, .int .i64 ((n : Nat) : Int), .bool true, (U1 44), (U1 45), .slice A42 n43 c44, .int .i64 ((i : Nat) : Int), .bool true, .bool false, (U1 50), (U1 51), (U1 52), (U1 53), undef, undef]) (by kernel_rfl) ?_
        have x6 := SG.blk s151 x6 (by simp)
        have c155 := (SG.belowR c146 s151 (fun kq e => by cases e))
        have rd156 := Rd.kept rd1_9 (SG.below s151)
        refine h17 _ _ ?_
        refine wp_cond_false (by kernel_rfl) ?_
        refine wp_skip ?_
        refine h16 _ _ ?_
        refine W.region_quiet [(0, false), (1, false), (2, false)] (by kernel_rfl) ?_
        refine W.sq (v := .int .i64 ((i : Nat) : Int)) rfl (r_move rfl (by kernel_rfl)) (by kernel_rfl) rfl rfl ?_
        refine W.sq (v := .int .i64 ((i + 1 : Nat) : Int)) rfl (r_add (m := ((i : Nat) : Int)) (n := 1) (z := ((i + 1 : Nat) : Int)) rfl (by kernel_rfl) (by kernel_rfl) (by omega) (by omega)) (by kernel_rfl) rfl rfl ?_
        refine W.sq (v := .int .i64 ((i + 1 : Nat) : Int)) rfl (r_assign rfl (by kernel_rfl)) (by kernel_rfl) rfl rfl ?_
        refine W.sch_end (l' := [.agg #[.int .i64 m, .slice A n c], .slice A2 n2 c2, .int .i64 a, .pointer (some ⟨b2, 0, none⟩), undef, undef, .slice none 0 0, .slice none 0 0, .slice A39 n40 c41, .slice A42 n43 c44, .slice A0_10 n0_10 c0_10, .slice A1_11 n1_11 c1_11, .int .i64 ((j + 1 : Nat) : Int), .int .i64 ((i + 1 : Nat) : Int), .tuple #[.slice A39 n40 c41, .slice A42 n43 c44], .agg #[.int .i64 m, .slice A n c], .slice A2 n2 c2, .int .i64 a, .slice (some ⟨b11, 0, none⟩) 1 1, .slice (some ⟨b19, 0, none⟩) 0 0, .tuple #[.slice A39 n40 c41, .slice A42 n43 c44], .slice A39 n40 c41, .slice A42 n43 c44, .slice (some ⟨b60, 0, none⟩) 0 0, .slice (some ⟨b72, 0, none⟩) 0 0, .int .i64 ((j + 1 : Nat) : Int), .pointer (some ⟨b2, 0, none⟩), .int .i64 m, .bool false, (U0 29), (U0 30), (U0 31), (U0 32), (U0 33), (U0 34), (U0 35), (U0 36), (U0 37), (U0 38), .int .i64 ((i : Nat) : Int), .pointer (some ⟨b2, 1, none⟩), .slice A n c, .int .i64 ((n : Nat) : Int), .bool true, .int .i64 ((i : Nat) : Int), .int .i64 ((i + 1 : Nat) : Int), .slice A42 n43 c44, .int .i64 ((i : Nat) : Int), .bool true, .bool false, (U1 50), (U1 51), (U1 52), (U1 53), undef, undef]) (by kernel_rfl) ?_
        exact h13 _ _ _ (by omega : (n - (i + 1)) < _) ⟨i + 1, A1_11, n1_11, c1_11, (fun iU9 => [.agg #[.int .i64 m, .slice A n c], .slice A2 n2 c2, .int .i64 a, .pointer (some ⟨b2, 0, none⟩), undef, undef, .slice none 0 0, .slice none 0 0, .slice A39 n40 c41, .slice A42 n43 c44, .slice A0_10 n0_10 c0_10, .slice A1_11 n1_11 c1_11, .int .i64 ((j + 1 : Nat) : Int), .int .i64 ((i + 1 : Nat) : Int), .tuple #[.slice A39 n40 c41, .slice A42 n43 c44], .agg #[.int .i64 m, .slice A n c], .slice A2 n2 c2, .int .i64 a, .slice (some ⟨b11, 0, none⟩) 1 1, .slice (some ⟨b19, 0, none⟩) 0 0, .tuple #[.slice A39 n40 c41, .slice A42 n43 c44], .slice A39 n40 c41, .slice A42 n43 c44, .slice (some ⟨b60, 0, none⟩) 0 0, .slice (some ⟨b72, 0, none⟩) 0 0, .int .i64 ((j + 1 : Nat) : Int), .pointer (some ⟨b2, 0, none⟩), .int .i64 m, .bool false, (U0 29), (U0 30), (U0 31), (U0 32), (U0 33), (U0 34), (U0 35), (U0 36), (U0 37), (U0 38), .int .i64 ((i : Nat) : Int), .pointer (some ⟨b2, 1, none⟩), .slice A n c, .int .i64 ((n : Nat) : Int), .bool true, .int .i64 ((i : Nat) : Int), .int .i64 ((i + 1 : Nat) : Int), .slice A42 n43 c44, .int .i64 ((i : Nat) : Int), .bool true, .bool false, (U1 50), (U1 51), (U1 52), (U1 53), undef, undef].getD iU9 undef), (by kernel_rfl), rfl, (by omega), (by omega), x6, ho152, (by rw [idxL_no (ne_of_not (by rw [show rb (linked ps (openQ vs true)) a (9 + (i : Int)) = true from (idxL_has (by omega : 0 ≤ (i : Int) ∧ (i : Int) < ps.length)).symm.trans q154]; rfl))]; exact ho153), nb1_11_b2, nr1_1_0, rd156, sp1_9_11, c155⟩
      · rw [q154]
        refine W.sq (v := .bool true) rfl (r_not (b := false) rfl (by kernel_rfl) rfl) (by kernel_rfl) rfl rfl ?_
        refine W.sch_end (l' := [.agg #[.int .i64 m, .slice A n c], .slice A2 n2 c2, .int .i64 a, .pointer (some ⟨b2, 0, none⟩), undef, undef, .slice none 0 0, .slice none 0 0, .slice A39 n40 c41, .slice A42 n43 c44, .slice A0_10 n0_10 c0_10, .slice A1_11 n1_11 c1_11, .int .i64 ((j + 1 : Nat) : Int), .int .i64 ((i : Nat) : Int), .tuple #[.slice A39 n40 c41, .slice A42 n43 c44], .agg #[.int .i64 m, .slice A n c], .slice A2 n2 c2, .int .i64 a, .slice (some ⟨b11, 0, none⟩) 1 1, .slice (some ⟨b19, 0, none⟩) 0 0, .tuple #[.slice A39 n40 c41, .slice A42 n43 c44], .slice A39 n40 c41, .slice A42 n43 c44, .slice (some ⟨b60, 0, none⟩) 0 0, .slice (some ⟨b72, 0, none⟩) 0 0, .int .i64 ((j + 1 : Nat) : Int), .pointer (some ⟨b2, 0, none⟩), .int .i64 m, .bool false, (U0 29), (U0 30), (U0 31), (U0 32), (U0 33), (U0 34), (U0 35), (U0 36), (U0 37), (U0 38), .int .i64 ((i : Nat) : Int), .pointer (some ⟨b2, 1, none⟩), .slice A n c, .int .i64 ((n : Nat) : Int), .bool true, (U1 44), (U1 45), .slice A42 n43 c44, .int .i64 ((i : Nat) : Int), .bool false, .bool true, (U1 50), (U1 51), (U1 52), (U1 53), undef, undef]) (by kernel_rfl) ?_
        have x6 := SG.blk s151 x6 (by simp)
        have c157 := (SG.belowR c146 s151 (fun kq e => by cases e))
        have rd158 := Rd.kept rd1_9 (SG.below s151)
        refine h17 _ _ ?_
        refine wp_cond_true (by kernel_rfl) ?_
        refine W.region_plain (row := (Value.ownBlock (.slice A1_11 n1_11 c1_11))) [(0, false), (1, false), (2, true), (3, true), (4, false)] (by kernel_rfl) ?_
        have s159 := SG.self w150 (Value.ownBlock (.slice A1_11 n1_11 c1_11))
        refine W.sq (v := .slice A1_11 n1_11 c1_11) rfl (r_move rfl (by kernel_rfl)) (by kernel_rfl) rfl rfl ?_
        refine W.sq (v := .int .i64 ((i : Nat) : Int)) rfl (r_move rfl (by kernel_rfl)) (by kernel_rfl) rfl rfl ?_
        refine W.sn (fun b => .slice (some ⟨b, 0, none⟩) 1 1) #[.int .i64 ((i : Nat) : Int)] 3 s159 rfl (by kernel_rfl) rfl (fun _ => by kernel_rfl) (fun b160 w161 hb162 k163 x164 s165 => ?_)
        have lo166 : w.heap.size ≤ b160 := by have := ((SG.belowR c157 s159 (fun kq e => (World.ownsRow.lt ho153 kq e).1))).size; omega
        have sp167 : Sp A42 n43 (some b160) := sp_new rd158 (by have := World.grownBy.size s159; have := hb162; omega)
        have ne168 : b2 ≠ b160 := by have := blk_lt x6; have := World.grownBy.size s159; omega
        have nb169 : Nb b160 (.slice A0_10 n0_10 c0_10) := nb_hi ho152 (Nat.le_of_eq hb162)
        have nb170 : Nb b160 (.slice A1_11 n1_11 c1_11) := nb_hi ho153 (Nat.le_of_eq hb162)
        have ho171 := own_kept ho152 k163
        have ho172 := own_kept ho153 k163
        refine W.sap (e := 3) (size := 1) (base := w.heap.size) (m := 1) (v := .slice A1_11 n1_11 c1_11) (c := 1) s165 rfl rfl rfl rfl (by kernel_rfl) (by kernel_rfl) (by kernel_rfl) ho172 x164 (by kernel_rfl) (by kernel_rfl) (by omega) (by omega) (by have := ((SG.belowR c157 s165 (fun kq e => (World.ownsRow.lt ho153 kq e).1))).size; omega) (.inl rfl) (fun g173 cap174 w175 ho176 hg177 hat178 hlt179 s180 => ?_)
        have nb181 : Nb b2 (.slice (some ⟨g173, 0, none⟩) (n1_11 + 1) cap174) := nb_app nb1_11_b2 (Nat.lt_of_lt_of_le (blk_lt x6) (World.grownBy.size s165)) hat178
        have nb182 : Nb b160 (.slice (some ⟨g173, 0, none⟩) (n1_11 + 1) cap174) := nb_app nb170 (blk_lt x164) hat178
        have x164 := (hg177.block _ (blk_lt x164) nb170).trans x164
        have ho176 := own_snoc ho176
        have sp183 := sp_app (v' := .slice (some ⟨g173, 0, none⟩) (n1_11 + 1) cap174) sp1_9_11 rd158 (World.grownBy.size s165) (hat3 (v := .slice A1_11 n1_11 c1_11) hat178)
        have nr184 : NbR (.slice (some ⟨g173, 0, none⟩) (n1_11 + 1) cap174) (.slice A0_10 n0_10 c0_10) := nbr_app nr1_1_0 (fun j h => (World.ownsRow.lt ho171 j h).2) (hat3 (v := .slice A1_11 n1_11 c1_11) hat178)
        have ho185 := own_grown ho171 hg177 (NbR.symm nr1_1_0)
        refine W.sq (v := .slice (some ⟨g173, 0, none⟩) (n1_11 + 1) cap174) rfl (r_assign rfl (by kernel_rfl)) (by kernel_rfl) rfl rfl ?_
        refine W.sch_end (l' := [.agg #[.int .i64 m, .slice A n c], .slice A2 n2 c2, .int .i64 a, .pointer (some ⟨b2, 0, none⟩), undef, undef, .slice none 0 0, .slice none 0 0, .slice A39 n40 c41, .slice A42 n43 c44, .slice A0_10 n0_10 c0_10, .slice (some ⟨g173, 0, none⟩) (n1_11 + 1) cap174, .int .i64 ((j + 1 : Nat) : Int), .int .i64 ((i : Nat) : Int), .tuple #[.slice A39 n40 c41, .slice A42 n43 c44], .agg #[.int .i64 m, .slice A n c], .slice A2 n2 c2, .int .i64 a, .slice (some ⟨b11, 0, none⟩) 1 1, .slice (some ⟨b19, 0, none⟩) 0 0, .tuple #[.slice A39 n40 c41, .slice A42 n43 c44], .slice A39 n40 c41, .slice A42 n43 c44, .slice (some ⟨b60, 0, none⟩) 0 0, .slice (some ⟨b72, 0, none⟩) 0 0, .int .i64 ((j + 1 : Nat) : Int), .pointer (some ⟨b2, 0, none⟩), .int .i64 m, .bool false, (U0 29), (U0 30), (U0 31), (U0 32), (U0 33), (U0 34), (U0 35), (U0 36), (U0 37), (U0 38), .int .i64 ((i : Nat) : Int), .pointer (some ⟨b2, 1, none⟩), .slice A n c, .int .i64 ((n : Nat) : Int), .bool true, (U1 44), (U1 45), .slice A42 n43 c44, .int .i64 ((i : Nat) : Int), .bool false, .bool true, .slice A1_11 n1_11 c1_11, .int .i64 ((i : Nat) : Int), .slice (some ⟨b160, 0, none⟩) 1 1, .slice (some ⟨g173, 0, none⟩) (n1_11 + 1) cap174, undef, undef]) (by kernel_rfl) ?_
        have x6 := SG.blk s180 x6 nb1_11_b2
        have c186 := (SG.belowR c157 s180 (fun kq e => (World.ownsRow.lt ho153 kq e).1))
        have rd187 := rd_sep rd158 s180 sp1_9_11
        refine h16 _ _ ?_
        refine W.region_quiet [(0, false), (1, false), (2, false)] (by kernel_rfl) ?_
        refine W.sq (v := .int .i64 ((i : Nat) : Int)) rfl (r_move rfl (by kernel_rfl)) (by kernel_rfl) rfl rfl ?_
        refine W.sq (v := .int .i64 ((i + 1 : Nat) : Int)) rfl (r_add (m := ((i : Nat) : Int)) (n := 1) (z := ((i + 1 : Nat) : Int)) rfl (by kernel_rfl) (by kernel_rfl) (by omega) (by omega)) (by kernel_rfl) rfl rfl ?_
        refine W.sq (v := .int .i64 ((i + 1 : Nat) : Int)) rfl (r_assign rfl (by kernel_rfl)) (by kernel_rfl) rfl rfl ?_
        refine W.sch_end (l' := [.agg #[.int .i64 m, .slice A n c], .slice A2 n2 c2, .int .i64 a, .pointer (some ⟨b2, 0, none⟩), undef, undef, .slice none 0 0, .slice none 0 0, .slice A39 n40 c41, .slice A42 n43 c44, .slice A0_10 n0_10 c0_10, .slice (some ⟨g173, 0, none⟩) (n1_11 + 1) cap174, .int .i64 ((j + 1 : Nat) : Int), .int .i64 ((i + 1 : Nat) : Int), .tuple #[.slice A39 n40 c41, .slice A42 n43 c44], .agg #[.int .i64 m, .slice A n c], .slice A2 n2 c2, .int .i64 a, .slice (some ⟨b11, 0, none⟩) 1 1, .slice (some ⟨b19, 0, none⟩) 0 0, .tuple #[.slice A39 n40 c41, .slice A42 n43 c44], .slice A39 n40 c41, .slice A42 n43 c44, .slice (some ⟨b60, 0, none⟩) 0 0, .slice (some ⟨b72, 0, none⟩) 0 0, .int .i64 ((j + 1 : Nat) : Int), .pointer (some ⟨b2, 0, none⟩), .int .i64 m, .bool false, (U0 29), (U0 30), (U0 31), (U0 32), (U0 33), (U0 34), (U0 35), (U0 36), (U0 37), (U0 38), .int .i64 ((i : Nat) : Int), .pointer (some ⟨b2, 1, none⟩), .slice A n c, .int .i64 ((n : Nat) : Int), .bool true, .int .i64 ((i : Nat) : Int), .int .i64 ((i + 1 : Nat) : Int), .slice A42 n43 c44, .int .i64 ((i : Nat) : Int), .bool false, .bool true, .slice A1_11 n1_11 c1_11, .int .i64 ((i : Nat) : Int), .slice (some ⟨b160, 0, none⟩) 1 1, .slice (some ⟨g173, 0, none⟩) (n1_11 + 1) cap174, undef, undef]) (by kernel_rfl) ?_
        exact h13 _ _ _ (by omega : (n - (i + 1)) < _) ⟨i + 1, (some ⟨g173, 0, none⟩), (n1_11 + 1), cap174, (fun iU9 => [.agg #[.int .i64 m, .slice A n c], .slice A2 n2 c2, .int .i64 a, .pointer (some ⟨b2, 0, none⟩), undef, undef, .slice none 0 0, .slice none 0 0, .slice A39 n40 c41, .slice A42 n43 c44, .slice A0_10 n0_10 c0_10, .slice (some ⟨g173, 0, none⟩) (n1_11 + 1) cap174, .int .i64 ((j + 1 : Nat) : Int), .int .i64 ((i + 1 : Nat) : Int), .tuple #[.slice A39 n40 c41, .slice A42 n43 c44], .agg #[.int .i64 m, .slice A n c], .slice A2 n2 c2, .int .i64 a, .slice (some ⟨b11, 0, none⟩) 1 1, .slice (some ⟨b19, 0, none⟩) 0 0, .tuple #[.slice A39 n40 c41, .slice A42 n43 c44], .slice A39 n40 c41, .slice A42 n43 c44, .slice (some ⟨b60, 0, none⟩) 0 0, .slice (some ⟨b72, 0, none⟩) 0 0, .int .i64 ((j + 1 : Nat) : Int), .pointer (some ⟨b2, 0, none⟩), .int .i64 m, .bool false, (U0 29), (U0 30), (U0 31), (U0 32), (U0 33), (U0 34), (U0 35), (U0 36), (U0 37), (U0 38), .int .i64 ((i : Nat) : Int), .pointer (some ⟨b2, 1, none⟩), .slice A n c, .int .i64 ((n : Nat) : Int), .bool true, .int .i64 ((i : Nat) : Int), .int .i64 ((i + 1 : Nat) : Int), .slice A42 n43 c44, .int .i64 ((i : Nat) : Int), .bool false, .bool true, .slice A1_11 n1_11 c1_11, .int .i64 ((i : Nat) : Int), .slice (some ⟨b160, 0, none⟩) 1 1, .slice (some ⟨g173, 0, none⟩) (n1_11 + 1) cap174, undef, undef].getD iU9 undef), (by kernel_rfl), rfl, (by omega), (by omega), x6, ho185, (by rw [idxL_yes ((idxL_has (by omega : 0 ≤ (i : Int) ∧ (i : Int) < ps.length)).symm.trans q154)]; exact ho176), nb181, nr184, rd187, sp183, c186⟩
    · refine W.sq (v := .bool false) rfl (r_lss (m := ((i : Nat) : Int)) (n := ((n : Nat) : Int)) rfl (by kernel_rfl) (by kernel_rfl) (decide_eq_false q147)) (by kernel_rfl) rfl rfl ?_
      refine W.sch_end (l' := [.agg #[.int .i64 m, .slice A n c], .slice A2 n2 c2, .int .i64 a, .pointer (some ⟨b2, 0, none⟩), undef, undef, .slice none 0 0, .slice none 0 0, .slice A39 n40 c41, .slice A42 n43 c44, .slice A0_10 n0_10 c0_10, .slice A1_11 n1_11 c1_11, .int .i64 ((j + 1 : Nat) : Int), .int .i64 ((i : Nat) : Int), .tuple #[.slice A39 n40 c41, .slice A42 n43 c44], .agg #[.int .i64 m, .slice A n c], .slice A2 n2 c2, .int .i64 a, .slice (some ⟨b11, 0, none⟩) 1 1, .slice (some ⟨b19, 0, none⟩) 0 0, .tuple #[.slice A39 n40 c41, .slice A42 n43 c44], .slice A39 n40 c41, .slice A42 n43 c44, .slice (some ⟨b60, 0, none⟩) 0 0, .slice (some ⟨b72, 0, none⟩) 0 0, .int .i64 ((j + 1 : Nat) : Int), .pointer (some ⟨b2, 0, none⟩), .int .i64 m, .bool false, (U0 29), (U0 30), (U0 31), (U0 32), (U0 33), (U0 34), (U0 35), (U0 36), (U0 37), (U0 38), .int .i64 ((i : Nat) : Int), .pointer (some ⟨b2, 1, none⟩), .slice A n c, .int .i64 ((n : Nat) : Int), .bool false, (U1 44), (U1 45), (U1 46), (U1 47), (U1 48), (U1 49), (U1 50), (U1 51), (U1 52), (U1 53), undef, undef]) (by kernel_rfl) ?_
      refine h15 _ _ ?_
      refine wp_cond_false (by kernel_rfl) ?_
      refine wp_exit ?_
      refine h11 _ _ ?_
      refine wp_seq_k (fun K18 h18 => ?_)
      refine W.region_quiet [(0, false), (1, false), (2, false), (3, false)] (by kernel_rfl) ?_
      refine W.sq (v := .slice A0_10 n0_10 c0_10) rfl (r_move rfl (by kernel_rfl)) (by kernel_rfl) rfl rfl ?_
      refine W.sq (v := .slice A1_11 n1_11 c1_11) rfl (r_move rfl (by kernel_rfl)) (by kernel_rfl) rfl rfl ?_
      refine W.sq (v := .slice A0_10 n0_10 c0_10) rfl (r_assign rfl (by kernel_rfl)) (by kernel_rfl) rfl rfl ?_
      refine W.sq (v := .slice A1_11 n1_11 c1_11) rfl (r_assign rfl (by kernel_rfl)) (by kernel_rfl) rfl rfl ?_
      refine W.sch_end (l' := [.agg #[.int .i64 m, .slice A n c], .slice A2 n2 c2, .int .i64 a, .pointer (some ⟨b2, 0, none⟩), undef, undef, .slice A0_10 n0_10 c0_10, .slice A1_11 n1_11 c1_11, .slice A39 n40 c41, .slice A42 n43 c44, .slice A0_10 n0_10 c0_10, .slice A1_11 n1_11 c1_11, .int .i64 ((j + 1 : Nat) : Int), .int .i64 ((i : Nat) : Int), .tuple #[.slice A39 n40 c41, .slice A42 n43 c44], .agg #[.int .i64 m, .slice A n c], .slice A2 n2 c2, .int .i64 a, .slice (some ⟨b11, 0, none⟩) 1 1, .slice (some ⟨b19, 0, none⟩) 0 0, .tuple #[.slice A39 n40 c41, .slice A42 n43 c44], .slice A39 n40 c41, .slice A42 n43 c44, .slice (some ⟨b60, 0, none⟩) 0 0, .slice (some ⟨b72, 0, none⟩) 0 0, .int .i64 ((j + 1 : Nat) : Int), .pointer (some ⟨b2, 0, none⟩), .int .i64 m, .bool false, (U0 29), (U0 30), (U0 31), (U0 32), (U0 33), (U0 34), (U0 35), (U0 36), (U0 37), (U0 38), .int .i64 ((i : Nat) : Int), .pointer (some ⟨b2, 1, none⟩), .slice A n c, .int .i64 ((n : Nat) : Int), .bool false, (U1 44), (U1 45), (U1 46), (U1 47), (U1 48), (U1 49), (U1 50), (U1 51), (U1 52), (U1 53), .slice A0_10 n0_10 c0_10, .slice A1_11 n1_11 c1_11]) (by kernel_rfl) ?_
      refine h18 _ _ ?_
      refine wp_ret ?_
      try simp only [Exit.then]
      refine ret2 (v := .slice A0_10 n0_10 c0_10) (x := .slice A1_11 n1_11 c1_11) rfl (by kernel_rfl) (by kernel_rfl) ?_
      exact ⟨_, _, _, _, _, _, rfl, own_rd ho1_10, own_fm ho1_10, (by rw [show ps.length = i by omega]; exact own_rd ho1_11), own_fm ho1_11, c146⟩

end Go.Proofs.Ythdmbndndfiidaa
