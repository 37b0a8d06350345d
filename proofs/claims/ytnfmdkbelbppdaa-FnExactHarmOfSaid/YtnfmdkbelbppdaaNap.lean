/- Lists out of marks, and of lists: both packages. -/
import Derived.Test.YtnfmdkbelbppdaaSegS
import Derived.Test.YtnfmdkbelbppdaaSch7
namespace Go.Proofs.Ytnfmdkbelbppdaa
open Go.RowKit
set_option linter.unusedVariables false
set_option linter.unusedSimpArgs false

theorem nodesL_yes {E : Int → Int → Prop} {m : Nat} {a : Int} {told : Bool} (h : rb E a ((m : Int) + 1) = told) : nodesL E (m + 1) a told = nodesL E m a told ++ [((m + 1 : Nat) : Int)] := by
  rw [nodesL_succ, if_pos h]; simp
theorem nodesL_no {E : Int → Int → Prop} {m : Nat} {a : Int} {told : Bool} (h : rb E a ((m : Int) + 1) ≠ told) : nodesL E (m + 1) a told = nodesL E m a told := by
  rw [nodesL_succ, if_neg h]; simp
theorem wet_eq {E : Int → Int → Prop} {a : Int} {k : Nat} {x : Bool} (hx : (wetL E a)[k]? = some x) : x = rb E a (k : Int) := by
  have hk : k < 19 := by have := (List.getElem?_eq_some_iff.1 hx).1; rw [wetL_len] at this; exact this
  rw [wetL_at E a hk] at hx; exact (Option.some.inj hx).symm
theorem wet_eq1 {E : Int → Int → Prop} {a : Int} {m : Nat} {x : Bool} (hx : (wetL E a)[m + 1]? = some x) : rb E a ((m : Int) + 1) = x := by
  rw [wet_eq hx]; rfl
theorem wet_eq9 {E : Int → Int → Prop} {a : Int} {i : Nat} {x : Bool} (hx : (wetL E a)[9 + i]? = some x) : rb E a (9 + (i : Int)) = x := by
  rw [wet_eq hx]; exact congrArg _ (by omega)
theorem idsL_yes {E : Int → Int → Prop} {ps : List Pp} {i : Nat} {a : Int} {told : Bool} {p : Pp} (hp : ps[i]? = some p) (h : rb E a (9 + (i : Int)) = told) : idsAt ps (idxL E (i + 1) a told) = idsAt ps (idxL E i a told) ++ [p.id] := by
  rw [idxL_succ, if_pos h, idsAt_snoc hp]
theorem idsL_no {E : Int → Int → Prop} {ps : List Pp} {i : Nat} {a : Int} {told : Bool} (h : rb E a (9 + (i : Int)) ≠ told) : idsAt ps (idxL E (i + 1) a told) = idsAt ps (idxL E i a told) := by
  rw [idxL_succ, if_neg h, List.append_nil]
theorem idsAt_take {ps : List Pp} {xs : List Int} {i : Nat} {y : Int} {p : Pp} (hy : xs[i]? = some y) (hp : ps[y.toNat]? = some p) : idsAt ps (xs.take (i + 1)) = idsAt ps (xs.take i) ++ [p.id] := by
  rw [List.take_add_one, hy]; simp [idsAt, hp]
theorem nodesL_has {E : Int → Int → Prop} {m : Nat} {a b : Int} (hb : 1 ≤ b ∧ b ≤ m) : (nodesL E m a true).contains b = rb E a b := by
  rw [Bool.eq_iff_iff, List.contains_iff_mem, mem_nodesL]
  exact ⟨fun h => h.2, fun h => ⟨hb, h⟩⟩
theorem idxL_has {E : Int → Int → Prop} {n : Nat} {a b : Int} (hb : 0 ≤ b ∧ b < n) : (idxL E n a true).contains b = rb E a (9 + b) := by
  rw [Bool.eq_iff_iff, List.contains_iff_mem, mem_idxL]
  exact ⟨fun h => h.2, fun h => ⟨hb, h⟩⟩
theorem idxL_yes {E : Int → Int → Prop} {i : Nat} {a : Int} {told : Bool} (h : rb E a (9 + (i : Int)) = told) : idxL E (i + 1) a told = idxL E i a told ++ [(i : Int)] := by rw [idxL_succ, if_pos h]
theorem idxL_no {E : Int → Int → Prop} {i : Nat} {a : Int} {told : Bool} (h : rb E a (9 + (i : Int)) ≠ told) : idxL E (i + 1) a told = idxL E i a told := by rw [idxL_succ, if_neg h, List.append_nil]
theorem ne_of_not {a b : Bool} (h : a = !b) : a ≠ b := by cases b <;> simp_all

set_option maxRecDepth 100000 in
set_option maxHeartbeats 1000000 in
theorem l4Dry_any (m : Int) (A : Option Addr) (n c : Nat) (ps : List Pp) (A2 : Option Addr) (n2 c2 : Nat) (vs : List Vv) (a : Int) (w : World) (ha : Rd w 4 A n (pipesV ps)) (hb : Rd w 4 A2 n2 (valvesV vs)) (hn : n ≤ 1048576) (hn2 : n2 ≤ 1048576) (hp : pipesIn ps m.toNat) (hm : 1 ≤ m ∧ m ≤ 8) (hlen10 : ps.length ≤ 10) (hav : 1 ≤ a ∧ a ≤ m) :
    Calls Try.prog 107 #[.agg #[.int .i64 m, .slice A n c], .slice A2 n2 c2, .int .i64 a] w fun e w' => ∃ A5 n5 c5 A6 n6 c6, e = .returned (.tuple #[.slice A5 n5 c5, .slice A6 n6 c6]) ∧ Rd w' 1 A5 n5 (intsV (nodesL (linked ps (openQ vs true)) m.toNat a false)) ∧ Fm A5 n5 c5 ∧ Rd w' 1 A6 n6 (intsV (idxL (linked ps (openQ vs true)) ps.length a false)) ∧ Fm A6 n6 c6 ∧ Below w.heap.size w w' := by
  have hl := rd_pipes_len ha
  have hl2 := rd_valves_len hb
  go_enter Try.func107, Try.ntmps107
  refine wp_seq_k (fun K1 h1 => ?_)
  refine W.region_plain (row := none) [(0, true), (1, false), (2, false)] (by kernel_rfl) ?_
  have s1 := SG.self w none
  refine W.sn (fun b => .pointer (some ⟨b, 0, none⟩)) #[.int .i64 m, .slice A n c] 32 s1 rfl (by kernel_rfl) rfl (fun _ => by kernel_rfl) (fun b2 w3 hb4 k5 x6 s7 => ?_)
  have lo8 : w.heap.size ≤ b2 := by have := ((SG.belowR (Below.refl _ _) s1 (fun kq e => by cases e))).size; omega
  refine W.sq (v := .slice none 0 0) rfl (r_assign rfl (by kernel_rfl)) (by kernel_rfl) rfl rfl ?_
  refine W.sq (v := .slice none 0 0) rfl (r_assign rfl (by kernel_rfl)) (by kernel_rfl) rfl rfl ?_
  refine W.sch_end (l' := [.agg #[.int .i64 m, .slice A n c], .slice A2 n2 c2, .int .i64 a, .pointer (some ⟨b2, 0, none⟩), undef, undef, .slice none 0 0, .slice none 0 0, undef, undef, undef, undef, undef, undef, undef, undef, undef, undef, undef, undef, undef, undef, undef, undef, undef, undef, undef, undef, undef, undef, undef, undef, undef, undef, undef, undef, undef, undef, undef, undef, undef, undef, undef, undef, undef, undef, undef, undef, undef, undef, undef, undef, undef, undef, undef, undef]) (by kernel_rfl) ?_
  have c9 := (SG.belowR (Below.refl _ _) s7 (fun kq e => by cases e))
  refine h1 _ _ ?_
  refine wp_seq_k (fun K2 h2 => ?_)
  refine W.region_plain (row := none) [(0, false), (1, false), (2, false), (3, true), (4, true), (5, true), (6, false), (7, false), (8, false), (9, false), (10, false)] (by kernel_rfl) ?_
  have s10 := SG.self w3 none
  refine W.sq (v := .agg #[.int .i64 m, .slice A n c]) rfl (r_load2 rfl (by kernel_rfl) (by kernel_rfl) (by kernel_rfl) (sgS (blk_cell (j := 0) x6 (by kernel_rfl)) (by simp)) (sgS (blk_cell (j := 1) x6 (by kernel_rfl)) (by simp))) (by kernel_rfl) rfl rfl ?_
  refine W.sq (v := .slice A2 n2 c2) rfl (r_move rfl (by kernel_rfl)) (by kernel_rfl) rfl rfl ?_
  refine W.sq (v := .int .i64 a) rfl (r_move rfl (by kernel_rfl)) (by kernel_rfl) rfl rfl ?_
  refine W.sn (fun b => .slice (some ⟨b, 0, none⟩) 1 1) #[.int .i64 a] 3 s10 rfl (by kernel_rfl) rfl (fun _ => by kernel_rfl) (fun b11 w12 hb13 k14 x15 s16 => ?_)
  have lo17 : w.heap.size ≤ b11 := by have := ((SG.belowR c9 s10 (fun kq e => by cases e))).size; omega
  have ne18 : b2 ≠ b11 := by have := blk_lt x6; have := World.grownBy.size s10; omega
  refine W.sn (fun b => .slice (some ⟨b, 0, none⟩) 0 0) #[] 3 s16 rfl (by kernel_rfl) rfl (fun _ => by kernel_rfl) (fun b19 w20 hb21 k22 x23 s24 => ?_)
  have lo25 : w.heap.size ≤ b19 := by have := ((SG.belowR c9 s16 (fun kq e => by cases e))).size; omega
  have ne26 : b2 ≠ b19 := by have := blk_lt x6; have := World.grownBy.size s16; omega
  have ne27 : b11 ≠ b19 := by have := blk_lt x15; omega
  have x15 := (k22.block _ (blk_lt x15)).trans x15
  have ho28 := own_blk (base := w.heap.size) (size := 1) (n := 1) x15 lo17 rfl (by omega)
  replace ho28 : World.ownsRow _ _ _ _ _ _ (intsV [a]) := ho28
  have nb29 : Nb b2 (.slice (some ⟨b11, 0, none⟩) 1 1) := nb_new (by have := ne18; omega)
  have nb30 : Nb b19 (.slice (some ⟨b11, 0, none⟩) 1 1) := nb_new (by have := ne27; omega)
  have rd32 := own_rd ho28
  have hl33 := rd_ints_len rd32
  have ho34 := own_empty (base := w.heap.size) (size := 1) x23 lo25
  replace ho34 : World.ownsRow _ _ _ _ _ _ (intsV []) := ho34
  have nb35 : Nb b2 (.slice (some ⟨b19, 0, none⟩) 0 0) := nb_new (by have := ne26; omega)
  have rd37 := own_rd ho34
  have hl38 := rd_ints_len rd37
  refine W.sc (vs := [.agg #[.int .i64 m, .slice A n c], .slice A2 n2 c2, .bool true, .slice (some ⟨b11, 0, none⟩) 1 1, .slice (some ⟨b19, 0, none⟩) 0 0]) rfl rfl (by kernel_rfl) (by kernel_rfl) (by kernel_rfl) rfl (l4Spread_true m A n c ps A2 n2 c2 vs a (some ⟨b11, 0, none⟩) 1 1 ([a]) (some ⟨b19, 0, none⟩) 0 0 ([]) _ (Rd.kept ha (SG.belowR c9 s24 (fun kq e => by cases e))) (Rd.kept hb (SG.belowR c9 s24 (fun kq e => by cases e))) (by omega) (by omega) hp (by omega) (by omega) rd32 (own_fm ho28) rd37 (own_fm ho34) (FndQ.startN _ (by omega))) ?_
  rintro e w54 ⟨A39, n40, c41, A42, n43, c44, rfl, rd45, fm46, rd47, fm48, b53⟩
  have s55 := SG.of_below s24 b53
  refine ⟨_, rfl, s55, ?_⟩
  have rd56 := Rd.kept rd32 b53
  have rd57 := Rd.kept rd37 b53
  have hl51 := rd_ints_len rd45
  have hl52 := rd_ints_len rd47
  have := nodesL_len (linked ps (openQ vs true)) m.toNat a true
  have := idxL_len (linked ps (openQ vs true)) ps.length a true
  refine W.sq (v := .tuple #[.slice A39 n40 c41, .slice A42 n43 c44]) rfl (r_move rfl (by kernel_rfl)) (by kernel_rfl) rfl rfl ?_
  refine W.sq (v := .slice A39 n40 c41) rfl (r_extract (vs := #[.slice A39 n40 c41, .slice A42 n43 c44]) rfl (by kernel_rfl) (by kernel_rfl)) (by kernel_rfl) rfl rfl ?_
  refine W.sq (v := .slice A42 n43 c44) rfl (r_extract (vs := #[.slice A39 n40 c41, .slice A42 n43 c44]) rfl (by kernel_rfl) (by kernel_rfl)) (by kernel_rfl) rfl rfl ?_
  refine W.sq (v := .slice A39 n40 c41) rfl (r_assign rfl (by kernel_rfl)) (by kernel_rfl) rfl rfl ?_
  refine W.sq (v := .slice A42 n43 c44) rfl (r_assign rfl (by kernel_rfl)) (by kernel_rfl) rfl rfl ?_
  refine W.sch_endU (fun U58 => [.agg #[.int .i64 m, .slice A n c], .slice A2 n2 c2, .int .i64 a, .pointer (some ⟨b2, 0, none⟩), undef, undef, .slice none 0 0, .slice none 0 0, .slice A39 n40 c41, .slice A42 n43 c44, undef, undef, undef, undef, U58 14, U58 15, U58 16, U58 17, U58 18, U58 19, U58 20, U58 21, U58 22, undef, undef, undef, undef, undef, undef, undef, undef, undef, undef, undef, undef, undef, undef, undef, undef, undef, undef, undef, undef, undef, undef, undef, undef, undef, undef, undef, undef, undef, undef, undef, undef, undef]) (by kernel_rfl) (fun U58 => ?_)
  have x6 := SG.blk s55 x6 (by simp)
  have c59 := (SG.belowR c9 s55 (fun kq e => by cases e))
  refine h2 _ _ ?_
  refine wp_seq_k (fun K3 h3 => ?_)
  refine W.region_plain (row := none) [(0, true), (1, true), (2, false), (3, false)] (by kernel_rfl) ?_
  have s60 := SG.self w54 none
  refine W.sn (fun b => .slice (some ⟨b, 0, none⟩) 0 0) #[] 3 s60 rfl (by kernel_rfl) rfl (fun _ => by kernel_rfl) (fun b61 w62 hb63 k64 x65 s66 => ?_)
  have lo67 : w.heap.size ≤ b61 := by have := ((SG.belowR c59 s60 (fun kq e => by cases e))).size; omega
  have sp68 : Sp A39 n40 (some b61) := sp_new rd45 (by have := World.grownBy.size s60; have := hb63; omega)
  have sp69 : Sp A42 n43 (some b61) := sp_new rd47 (by have := World.grownBy.size s60; have := hb63; omega)
  have ne70 : b2 ≠ b61 := by have := blk_lt x6; have := World.grownBy.size s60; omega
  refine W.sn (fun b => .slice (some ⟨b, 0, none⟩) 0 0) #[] 3 s66 rfl (by kernel_rfl) rfl (fun _ => by kernel_rfl) (fun b71 w72 hb73 k74 x75 s76 => ?_)
  have lo77 : w.heap.size ≤ b71 := by have := ((SG.belowR c59 s66 (fun kq e => by cases e))).size; omega
  have sp78 : Sp A39 n40 (some b71) := sp_new rd45 (by have := World.grownBy.size s66; have := hb73; omega)
  have sp79 : Sp A42 n43 (some b71) := sp_new rd47 (by have := World.grownBy.size s66; have := hb73; omega)
  have ne80 : b2 ≠ b71 := by have := blk_lt x6; have := World.grownBy.size s66; omega
  have ne81 : b61 ≠ b71 := by have := blk_lt x65; omega
  have x65 := (k74.block _ (blk_lt x65)).trans x65
  refine W.sq (v := .slice (some ⟨b61, 0, none⟩) 0 0) rfl (r_assign rfl (by kernel_rfl)) (by kernel_rfl) rfl rfl ?_
  refine W.sq (v := .slice (some ⟨b71, 0, none⟩) 0 0) rfl (r_assign rfl (by kernel_rfl)) (by kernel_rfl) rfl rfl ?_
  refine W.sch_endU (fun U82 => [.agg #[.int .i64 m, .slice A n c], .slice A2 n2 c2, .int .i64 a, .pointer (some ⟨b2, 0, none⟩), undef, undef, .slice none 0 0, .slice none 0 0, .slice A39 n40 c41, .slice A42 n43 c44, .slice (some ⟨b61, 0, none⟩) 0 0, .slice (some ⟨b71, 0, none⟩) 0 0, undef, undef, (U58 14), (U58 15), (U58 16), (U58 17), (U58 18), (U58 19), (U58 20), (U58 21), (U58 22), U82 23, U82 24, undef, undef, undef, undef, undef, undef, undef, undef, undef, undef, undef, undef, undef, undef, undef, undef, undef, undef, undef, undef, undef, undef, undef, undef, undef, undef, undef, undef, undef, undef, undef]) (by kernel_rfl) (fun U82 => ?_)
  have x6 := SG.blk s76 x6 (by simp)
  have c83 := (SG.belowR c59 s76 (fun kq e => by cases e))
  have rd84 := Rd.kept rd56 (SG.below s76)
  have rd85 := Rd.kept rd57 (SG.below s76)
  have rd86 := Rd.kept rd45 (SG.below s76)
  have rd87 := Rd.kept rd47 (SG.below s76)
  refine h3 _ _ ?_
  refine wp_seq_k (fun K4 h4 => ?_)
  refine wp_seq_k (fun K5 h5 => ?_)
  refine W.region_quiet [(0, false)] (by kernel_rfl) ?_
  refine W.sq (v := .int .i64 1) rfl (r_assign rfl (by kernel_rfl)) (by kernel_rfl) rfl rfl ?_
  refine W.sch_end (l' := [.agg #[.int .i64 m, .slice A n c], .slice A2 n2 c2, .int .i64 a, .pointer (some ⟨b2, 0, none⟩), undef, undef, .slice none 0 0, .slice none 0 0, .slice A39 n40 c41, .slice A42 n43 c44, .slice (some ⟨b61, 0, none⟩) 0 0, .slice (some ⟨b71, 0, none⟩) 0 0, .int .i64 1, undef, (U58 14), (U58 15), (U58 16), (U58 17), (U58 18), (U58 19), (U58 20), (U58 21), (U58 22), (U82 23), (U82 24), undef, undef, undef, undef, undef, undef, undef, undef, undef, undef, undef, undef, undef, undef, undef, undef, undef, undef, undef, undef, undef, undef, undef, undef, undef, undef, undef, undef, undef, undef, undef]) (by kernel_rfl) ?_
  refine h5 _ _ ?_
  refine wp_block ?_
  have ho88 := own_empty (base := w.heap.size) (size := 1) x65 lo67
  replace ho88 : World.ownsRow _ _ _ _ _ _ (intsV []) := ho88
  have sp89 := sp_own (n' := 0) (c := 0) sp68
  have sp90 := sp_own (n' := 0) (c := 0) sp69
  have nb91 : Nb b2 (.slice (some ⟨b61, 0, none⟩) 0 0) := nb_new (by have := ne70; omega)
  have nb92 : Nb b71 (.slice (some ⟨b61, 0, none⟩) 0 0) := nb_new (by have := ne81; omega)
  refine loopK (fun am0 aa0 wl0 => ∃ (j : Nat) (A0_10 : Option Addr) (n0_10 : Nat) (c0_10 : Nat) (U0 : Nat → Value), aa0 = ⟨[.agg #[.int .i64 m, .slice A n c], .slice A2 n2 c2, .int .i64 a, .pointer (some ⟨b2, 0, none⟩), undef, undef, .slice none 0 0, .slice none 0 0, .slice A39 n40 c41, .slice A42 n43 c44, .slice A0_10 n0_10 c0_10, .slice (some ⟨b71, 0, none⟩) 0 0, .int .i64 ((j + 1 : Nat) : Int), undef, (U58 14), (U58 15), (U58 16), (U58 17), (U58 18), (U58 19), (U58 20), (U58 21), (U58 22), (U82 23), (U82 24), U0 25, U0 26, U0 27, U0 28, U0 29, U0 30, U0 31, U0 32, U0 33, U0 34, U0 35, U0 36, U0 37, U0 38, undef, undef, undef, undef, undef, undef, undef, undef, undef, undef, undef, undef, undef, undef, undef, undef, undef].toArray, []⟩ ∧ (am0 = m.toNat - j) ∧ (j ≤ m.toNat) ∧ (n0_10 ≤ j) ∧ (wl0.heap[b2]? = some (.cells #[.int .i64 m, .slice A n c] 32 (0, 0))) ∧ (wl0.heap[b71]? = some (.cells #[] 3 (0, 0))) ∧ (wl0.ownsRow w.heap.size 3 1 (.slice A0_10 n0_10 c0_10) n0_10 (intsV (nodesL (linked ps (openQ vs true)) j a false))) ∧ (Nb b2 (.slice A0_10 n0_10 c0_10)) ∧ (Nb b71 (.slice A0_10 n0_10 c0_10)) ∧ (Rd wl0 1 A39 n40 (intsV (nodesL (linked ps (openQ vs true)) m.toNat a true))) ∧ (Rd wl0 1 A42 n43 (intsV (idxL (linked ps (openQ vs true)) ps.length a true))) ∧ (Sp A39 n40 (Value.ownBlock (.slice A0_10 n0_10 c0_10))) ∧ (Sp A42 n43 (Value.ownBlock (.slice A0_10 n0_10 c0_10))) ∧ (Below w.heap.size w wl0)) (m.toNat - 0) ?_ ?_
  · exact ⟨0, (some ⟨b61, 0, none⟩), 0, 0, (fun iU9 => [.agg #[.int .i64 m, .slice A n c], .slice A2 n2 c2, .int .i64 a, .pointer (some ⟨b2, 0, none⟩), undef, undef, .slice none 0 0, .slice none 0 0, .slice A39 n40 c41, .slice A42 n43 c44, .slice (some ⟨b61, 0, none⟩) 0 0, .slice (some ⟨b71, 0, none⟩) 0 0, .int .i64 1, undef, (U58 14), (U58 15), (U58 16), (U58 17), (U58 18), (U58 19), (U58 20), (U58 21), (U58 22), (U82 23), (U82 24), undef, undef, undef, undef, undef, undef, undef, undef, undef, undef, undef, undef, undef, undef, undef, undef, undef, undef, undef, undef, undef, undef, undef, undef, undef, undef, undef, undef, undef, undef, undef].getD iU9 undef), (by kernel_rfl), rfl, (Nat.zero_le _), (Nat.zero_le _), x6, x75, ho88, nb91, nb92, rd86, rd87, sp89, sp90, c83⟩
  rintro am0 aa0 wl0 K6 h6 ⟨j, A0_10, n0_10, c0_10, U0, rfl, rfl, hj, hb10, x6, x75, ho0_10, nb0_10_b2, nb0_10_b71, rd0_8, rd0_9, sp0_8_10, sp0_9_10, c93⟩
  refine wp_seq_k (fun K7 h7 => ?_)
  refine wp_seq_k (fun K8 h8 => ?_)
  refine W.region_quiet [(0, false), (1, false), (2, false), (3, false)] (by kernel_rfl) ?_
  refine W.sq (v := .int .i64 ((j + 1 : Nat) : Int)) rfl (r_move rfl (by kernel_rfl)) (by kernel_rfl) rfl rfl ?_
  refine W.sq (v := .pointer (some ⟨b2, 0, none⟩)) rfl (r_field0 rfl (by kernel_rfl) (by kernel_rfl)) (by kernel_rfl) rfl rfl ?_
  refine W.sq (v := .int .i64 m) rfl (r_load rfl (by kernel_rfl) (by kernel_rfl) (eqS (blk_cell (j := 0) x6 (by kernel_rfl)))) (by kernel_rfl) rfl rfl ?_
  by_cases q94 : (((j + 1 : Nat) : Int) : Int) ≤ (m : Int)
  · refine W.sq (v := .bool true) rfl (r_leq (m := ((j + 1 : Nat) : Int)) (n := m) rfl (by kernel_rfl) (by kernel_rfl) (decide_eq_true q94)) (by kernel_rfl) rfl rfl ?_
    refine W.sch_endU (fun U95 => [.agg #[.int .i64 m, .slice A n c], .slice A2 n2 c2, .int .i64 a, .pointer (some ⟨b2, 0, none⟩), undef, undef, .slice none 0 0, .slice none 0 0, .slice A39 n40 c41, .slice A42 n43 c44, .slice A0_10 n0_10 c0_10, .slice (some ⟨b71, 0, none⟩) 0 0, .int .i64 ((j + 1 : Nat) : Int), undef, (U58 14), (U58 15), (U58 16), (U58 17), (U58 18), (U58 19), (U58 20), (U58 21), (U58 22), (U82 23), (U82 24), U95 25, U95 26, U95 27, .bool true, (U0 29), (U0 30), (U0 31), (U0 32), (U0 33), (U0 34), (U0 35), (U0 36), (U0 37), (U0 38), undef, undef, undef, undef, undef, undef, undef, undef, undef, undef, undef, undef, undef, undef, undef, undef, undef]) (by kernel_rfl) (fun U95 => ?_)
    refine h8 _ _ ?_
    refine wp_cond_true (by kernel_rfl) ?_
    refine wp_skip ?_
    refine h7 _ _ ?_
    refine wp_seq_k (fun K9 h9 => ?_)
    refine wp_block ?_
    refine wp_seq_k (fun K10 h10 => ?_)
    refine W.region_plain (row := none) [(0, false), (1, false), (2, true), (3, false)] (by kernel_rfl) ?_
    have s96 := SG.self wl0 none
    refine W.sq (v := .slice A39 n40 c41) rfl (r_move rfl (by kernel_rfl)) (by kernel_rfl) rfl rfl ?_
    refine W.sq (v := .int .i64 ((j + 1 : Nat) : Int)) rfl (r_move rfl (by kernel_rfl)) (by kernel_rfl) rfl rfl ?_
    refine W.sc (vs := [.slice A39 n40 c41, .int .i64 ((j + 1 : Nat) : Int)]) rfl rfl (by kernel_rfl) (by kernel_rfl) (by kernel_rfl) rfl (l1Has_any A39 n40 c41 (nodesL (linked ps (openQ vs true)) m.toNat a true) ((j + 1 : Nat) : Int) _ (Rd.kept rd0_8 (SG.below s96)) (by omega)) ?_
    rintro e w98 ⟨rfl, b97⟩
    have s99 := SG.of_below s96 b97
    refine ⟨_, rfl, s99, ?_⟩
    have ho100 := own_kept ho0_10 b97
    rcases Bool.eq_false_or_eq_true ((nodesL (linked ps (openQ vs true)) m.toNat a true).contains ((j + 1 : Nat) : Int)) with q101 | q101
    · rw [q101]
      refine W.sq (v := .bool false) rfl (r_not (b := true) rfl (by kernel_rfl) rfl) (by kernel_rfl) rfl rfl ?_
      refine W.sch_endU (fun U102 => [.agg #[.int .i64 m, .slice A n c], .slice A2 n2 c2, .int .i64 a, .pointer (some ⟨b2, 0, none⟩), undef, undef, .slice none 0 0, .slice none 0 0, .slice A39 n40 c41, .slice A42 n43 c44, .slice A0_10 n0_10 c0_10, .slice (some ⟨b71, 0, none⟩) 0 0, .int .i64 ((j + 1 : Nat) : Int), undef, (U58 14), (U58 15), (U58 16), (U58 17), (U58 18), (U58 19), (U58 20), (U58 21), (U58 22), (U82 23), (U82 24), (U95 25), (U95 26), (U95 27), .bool true, (U0 29), (U0 30), U102 31, U102 32, U102 33, .bool false, (U0 35), (U0 36), (U0 37), (U0 38), undef, undef, undef, undef, undef, undef, undef, undef, undef, undef, undef, undef, undef, undef, undef, undef, undef]) (by kernel_rfl) (fun U102 => ?_)
      have x6 := SG.blk s99 x6 (by simp)
      have x75 := SG.blk s99 x75 (by simp)
      have c103 := (SG.belowR c93 s99 (fun kq e => by cases e))
      have rd104 := Rd.kept rd0_8 (SG.below s99)
      have rd105 := Rd.kept rd0_9 (SG.below s99)
      refine h10 _ _ ?_
      refine wp_cond_false (by kernel_rfl) ?_
      refine wp_skip ?_
      refine h9 _ _ ?_
      refine W.region_quiet [(0, false), (1, false), (2, false)] (by kernel_rfl) ?_
      refine W.sq (v := .int .i64 ((j + 1 : Nat) : Int)) rfl (r_move rfl (by kernel_rfl)) (by kernel_rfl) rfl rfl ?_
      refine W.sq (v := .int .i64 ((j + 1 + 1 : Nat) : Int)) rfl (r_add (m := ((j + 1 : Nat) : Int)) (n := 1) (z := ((j + 1 + 1 : Nat) : Int)) rfl (by kernel_rfl) (by kernel_rfl) (by omega) (by omega)) (by kernel_rfl) rfl rfl ?_
      refine W.sq (v := .int .i64 ((j + 1 + 1 : Nat) : Int)) rfl (r_assign rfl (by kernel_rfl)) (by kernel_rfl) rfl rfl ?_
      refine W.sch_endU (fun U106 => [.agg #[.int .i64 m, .slice A n c], .slice A2 n2 c2, .int .i64 a, .pointer (some ⟨b2, 0, none⟩), undef, undef, .slice none 0 0, .slice none 0 0, .slice A39 n40 c41, .slice A42 n43 c44, .slice A0_10 n0_10 c0_10, .slice (some ⟨b71, 0, none⟩) 0 0, .int .i64 ((j + 1 + 1 : Nat) : Int), undef, (U58 14), (U58 15), (U58 16), (U58 17), (U58 18), (U58 19), (U58 20), (U58 21), (U58 22), (U82 23), (U82 24), (U95 25), (U95 26), (U95 27), .bool true, U106 29, U106 30, (U102 31), (U102 32), (U102 33), .bool false, (U0 35), (U0 36), (U0 37), (U0 38), undef, undef, undef, undef, undef, undef, undef, undef, undef, undef, undef, undef, undef, undef, undef, undef, undef]) (by kernel_rfl) (fun U106 => ?_)
      exact h6 _ _ _ (by omega : (m.toNat - (j + 1)) < _) ⟨j + 1, A0_10, n0_10, c0_10, (fun iU9 => [.agg #[.int .i64 m, .slice A n c], .slice A2 n2 c2, .int .i64 a, .pointer (some ⟨b2, 0, none⟩), undef, undef, .slice none 0 0, .slice none 0 0, .slice A39 n40 c41, .slice A42 n43 c44, .slice A0_10 n0_10 c0_10, .slice (some ⟨b71, 0, none⟩) 0 0, .int .i64 ((j + 1 + 1 : Nat) : Int), undef, (U58 14), (U58 15), (U58 16), (U58 17), (U58 18), (U58 19), (U58 20), (U58 21), (U58 22), (U82 23), (U82 24), (U95 25), (U95 26), (U95 27), .bool true, (U106 29), (U106 30), (U102 31), (U102 32), (U102 33), .bool false, (U0 35), (U0 36), (U0 37), (U0 38), undef, undef, undef, undef, undef, undef, undef, undef, undef, undef, undef, undef, undef, undef, undef, undef, undef].getD iU9 undef), (by kernel_rfl), rfl, (by omega), (by omega), x6, x75, (by rw [nodesL_no (ne_of_not (by rw [show rb (linked ps (openQ vs true)) a ((j : Int) + 1) = true from (nodesL_has (by omega : 1 ≤ ((j + 1 : Nat) : Int) ∧ ((j + 1 : Nat) : Int) ≤ m.toNat)).symm.trans q101]; rfl))]; exact ho100), nb0_10_b2, nb0_10_b71, rd104, rd105, sp0_8_10, sp0_9_10, c103⟩
    · rw [q101]
      refine W.sq (v := .bool true) rfl (r_not (b := false) rfl (by kernel_rfl) rfl) (by kernel_rfl) rfl rfl ?_
      refine W.sch_endU (fun U107 => [.agg #[.int .i64 m, .slice A n c], .slice A2 n2 c2, .int .i64 a, .pointer (some ⟨b2, 0, none⟩), undef, undef, .slice none 0 0, .slice none 0 0, .slice A39 n40 c41, .slice A42 n43 c44, .slice A0_10 n0_10 c0_10, .slice (some ⟨b71, 0, none⟩) 0 0, .int .i64 ((j + 1 : Nat) : Int), undef, (U58 14), (U58 15), (U58 16), (U58 17), (U58 18), (U58 19), (U58 20), (U58 21), (U58 22), (U82 23), (U82 24), (U95 25), (U95 26), (U95 27), .bool true, (U0 29), (U0 30), U107 31, U107 32, U107 33, .bool true, (U0 35), (U0 36), (U0 37), (U0 38), undef, undef, undef, undef, undef, undef, undef, undef, undef, undef, undef, undef, undef, undef, undef, undef, undef]) (by kernel_rfl) (fun U107 => ?_)
      have x6 := SG.blk s99 x6 (by simp)
      have x75 := SG.blk s99 x75 (by simp)
      have c108 := (SG.belowR c93 s99 (fun kq e => by cases e))
      have rd109 := Rd.kept rd0_8 (SG.below s99)
      have rd110 := Rd.kept rd0_9 (SG.below s99)
      refine h10 _ _ ?_
      refine wp_cond_true (by kernel_rfl) ?_
      refine W.region_plain (row := (Value.ownBlock (.slice A0_10 n0_10 c0_10))) [(0, false), (1, false), (2, true), (3, true), (4, false)] (by kernel_rfl) ?_
      have s111 := SG.self w98 (Value.ownBlock (.slice A0_10 n0_10 c0_10))
      refine W.sq (v := .slice A0_10 n0_10 c0_10) rfl (r_move rfl (by kernel_rfl)) (by kernel_rfl) rfl rfl ?_
      refine W.sq (v := .int .i64 ((j + 1 : Nat) : Int)) rfl (r_move rfl (by kernel_rfl)) (by kernel_rfl) rfl rfl ?_
      refine W.sn (fun b => .slice (some ⟨b, 0, none⟩) 1 1) #[.int .i64 ((j + 1 : Nat) : Int)] 3 s111 rfl (by kernel_rfl) rfl (fun _ => by kernel_rfl) (fun b112 w113 hb114 k115 x116 s117 => ?_)
      have lo118 : w.heap.size ≤ b112 := by have := ((SG.belowR c108 s111 (fun kq e => (World.ownsRow.lt ho100 kq e).1))).size; omega
      have sp119 : Sp A39 n40 (some b112) := sp_new rd109 (by have := World.grownBy.size s111; have := hb114; omega)
      have sp120 : Sp A42 n43 (some b112) := sp_new rd110 (by have := World.grownBy.size s111; have := hb114; omega)
      have ne121 : b2 ≠ b112 := by have := blk_lt x6; have := World.grownBy.size s111; omega
      have ne122 : b71 ≠ b112 := by have := blk_lt x75; have := World.grownBy.size s111; omega
      have nb123 : Nb b112 (.slice A0_10 n0_10 c0_10) := nb_hi ho100 (Nat.le_of_eq hb114)
      have ho124 := own_kept ho100 k115
      refine W.sap (e := 3) (size := 1) (base := w.heap.size) (m := 1) (v := .slice A0_10 n0_10 c0_10) (c := 1) s117 rfl rfl rfl rfl (by kernel_rfl) (by kernel_rfl) (by kernel_rfl) ho124 x116 (by kernel_rfl) (by kernel_rfl) (by omega) (by omega) (by have := ((SG.belowR c108 s117 (fun kq e => (World.ownsRow.lt ho100 kq e).1))).size; omega) (.inl rfl) (fun g125 cap126 w127 ho128 hg129 hat130 hlt131 s132 => ?_)
      have nb133 : Nb b2 (.slice (some ⟨g125, 0, none⟩) (n0_10 + 1) cap126) := nb_app nb0_10_b2 (Nat.lt_of_lt_of_le (blk_lt x6) (World.grownBy.size s117)) hat130
      have nb134 : Nb b71 (.slice (some ⟨g125, 0, none⟩) (n0_10 + 1) cap126) := nb_app nb0_10_b71 (Nat.lt_of_lt_of_le (blk_lt x75) (World.grownBy.size s117)) hat130
      have nb135 : Nb b112 (.slice (some ⟨g125, 0, none⟩) (n0_10 + 1) cap126) := nb_app nb123 (blk_lt x116) hat130
      have x116 := (hg129.block _ (blk_lt x116) nb123).trans x116
      have ho128 := own_snoc ho128
      have sp136 := sp_app (v' := .slice (some ⟨g125, 0, none⟩) (n0_10 + 1) cap126) sp0_8_10 rd109 (World.grownBy.size s117) (hat3 (v := .slice A0_10 n0_10 c0_10) hat130)
      have sp137 := sp_app (v' := .slice (some ⟨g125, 0, none⟩) (n0_10 + 1) cap126) sp0_9_10 rd110 (World.grownBy.size s117) (hat3 (v := .slice A0_10 n0_10 c0_10) hat130)
      refine W.sq (v := .slice (some ⟨g125, 0, none⟩) (n0_10 + 1) cap126) rfl (r_assign rfl (by kernel_rfl)) (by kernel_rfl) rfl rfl ?_
      refine W.sch_endU (fun U138 => [.agg #[.int .i64 m, .slice A n c], .slice A2 n2 c2, .int .i64 a, .pointer (some ⟨b2, 0, none⟩), undef, undef, .slice none 0 0, .slice none 0 0, .slice A39 n40 c41, .slice A42 n43 c44, .slice (some ⟨g125, 0, none⟩) (n0_10 + 1) cap126, .slice (some ⟨b71, 0, none⟩) 0 0, .int .i64 ((j + 1 : Nat) : Int), undef, (U58 14), (U58 15), (U58 16), (U58 17), (U58 18), (U58 19), (U58 20), (U58 21), (U58 22), (U82 23), (U82 24), (U95 25), (U95 26), (U95 27), .bool true, (U0 29), (U0 30), (U107 31), (U107 32), (U107 33), .bool true, U138 35, U138 36, U138 37, U138 38, undef, undef, undef, undef, undef, undef, undef, undef, undef, undef, undef, undef, undef, undef, undef, undef, undef]) (by kernel_rfl) (fun U138 => ?_)
      have x6 := SG.blk s132 x6 nb0_10_b2
      have x75 := SG.blk s132 x75 nb0_10_b71
      have c139 := (SG.belowR c108 s132 (fun kq e => (World.ownsRow.lt ho100 kq e).1))
      have rd140 := rd_sep rd109 s132 sp0_8_10
      have rd141 := rd_sep rd110 s132 sp0_9_10
      refine h9 _ _ ?_
      refine W.region_quiet [(0, false), (1, false), (2, false)] (by kernel_rfl) ?_
      refine W.sq (v := .int .i64 ((j + 1 : Nat) : Int)) rfl (r_move rfl (by kernel_rfl)) (by kernel_rfl) rfl rfl ?_
      refine W.sq (v := .int .i64 ((j + 1 + 1 : Nat) : Int)) rfl (r_add (m := ((j + 1 : Nat) : Int)) (n := 1) (z := ((j + 1 + 1 : Nat) : Int)) rfl (by kernel_rfl) (by kernel_rfl) (by omega) (by omega)) (by kernel_rfl) rfl rfl ?_
      refine W.sq (v := .int .i64 ((j + 1 + 1 : Nat) : Int)) rfl (r_assign rfl (by kernel_rfl)) (by kernel_rfl) rfl rfl ?_
      refine W.sch_endU (fun U142 => [.agg #[.int .i64 m, .slice A n c], .slice A2 n2 c2, .int .i64 a, .pointer (some ⟨b2, 0, none⟩), undef, undef, .slice none 0 0, .slice none 0 0, .slice A39 n40 c41, .slice A42 n43 c44, .slice (some ⟨g125, 0, none⟩) (n0_10 + 1) cap126, .slice (some ⟨b71, 0, none⟩) 0 0, .int .i64 ((j + 1 + 1 : Nat) : Int), undef, (U58 14), (U58 15), (U58 16), (U58 17), (U58 18), (U58 19), (U58 20), (U58 21), (U58 22), (U82 23), (U82 24), (U95 25), (U95 26), (U95 27), .bool true, U142 29, U142 30, (U107 31), (U107 32), (U107 33), .bool true, (U138 35), (U138 36), (U138 37), (U138 38), undef, undef, undef, undef, undef, undef, undef, undef, undef, undef, undef, undef, undef, undef, undef, undef, undef]) (by kernel_rfl) (fun U142 => ?_)
      exact h6 _ _ _ (by omega : (m.toNat - (j + 1)) < _) ⟨j + 1, (some ⟨g125, 0, none⟩), (n0_10 + 1), cap126, (fun iU9 => [.agg #[.int .i64 m, .slice A n c], .slice A2 n2 c2, .int .i64 a, .pointer (some ⟨b2, 0, none⟩), undef, undef, .slice none 0 0, .slice none 0 0, .slice A39 n40 c41, .slice A42 n43 c44, .slice (some ⟨g125, 0, none⟩) (n0_10 + 1) cap126, .slice (some ⟨b71, 0, none⟩) 0 0, .int .i64 ((j + 1 + 1 : Nat) : Int), undef, (U58 14), (U58 15), (U58 16), (U58 17), (U58 18), (U58 19), (U58 20), (U58 21), (U58 22), (U82 23), (U82 24), (U95 25), (U95 26), (U95 27), .bool true, (U142 29), (U142 30), (U107 31), (U107 32), (U107 33), .bool true, (U138 35), (U138 36), (U138 37), (U138 38), undef, undef, undef, undef, undef, undef, undef, undef, undef, undef, undef, undef, undef, undef, undef, undef, undef].getD iU9 undef), (by kernel_rfl), rfl, (by omega), (by omega), x6, x75, (by rw [nodesL_yes ((nodesL_has (by omega : 1 ≤ ((j + 1 : Nat) : Int) ∧ ((j + 1 : Nat) : Int) ≤ m.toNat)).symm.trans q101)]; exact ho128), nb133, nb134, rd140, rd141, sp136, sp137, c139⟩
  · refine W.sq (v := .bool false) rfl (r_leq (m := ((j + 1 : Nat) : Int)) (n := m) rfl (by kernel_rfl) (by kernel_rfl) (decide_eq_false q94)) (by kernel_rfl) rfl rfl ?_
    refine W.sch_endU (fun U143 => [.agg #[.int .i64 m, .slice A n c], .slice A2 n2 c2, .int .i64 a, .pointer (some ⟨b2, 0, none⟩), undef, undef, .slice none 0 0, .slice none 0 0, .slice A39 n40 c41, .slice A42 n43 c44, .slice A0_10 n0_10 c0_10, .slice (some ⟨b71, 0, none⟩) 0 0, .int .i64 ((j + 1 : Nat) : Int), undef, (U58 14), (U58 15), (U58 16), (U58 17), (U58 18), (U58 19), (U58 20), (U58 21), (U58 22), (U82 23), (U82 24), U143 25, U143 26, U143 27, .bool false, (U0 29), (U0 30), (U0 31), (U0 32), (U0 33), (U0 34), (U0 35), (U0 36), (U0 37), (U0 38), undef, undef, undef, undef, undef, undef, undef, undef, undef, undef, undef, undef, undef, undef, undef, undef, undef]) (by kernel_rfl) (fun U143 => ?_)
    refine h8 _ _ ?_
    refine wp_cond_false (by kernel_rfl) ?_
    refine wp_exit ?_
    refine h4 _ _ ?_
    refine wp_seq_k (fun K11 h11 => ?_)
    refine wp_seq_k (fun K12 h12 => ?_)
    refine W.region_quiet [(0, false)] (by kernel_rfl) ?_
    refine W.sq (v := .int .i64 0) rfl (r_assign rfl (by kernel_rfl)) (by kernel_rfl) rfl rfl ?_
    refine W.sch_end (l' := [.agg #[.int .i64 m, .slice A n c], .slice A2 n2 c2, .int .i64 a, .pointer (some ⟨b2, 0, none⟩), undef, undef, .slice none 0 0, .slice none 0 0, .slice A39 n40 c41, .slice A42 n43 c44, .slice A0_10 n0_10 c0_10, .slice (some ⟨b71, 0, none⟩) 0 0, .int .i64 ((j + 1 : Nat) : Int), .int .i64 0, (U58 14), (U58 15), (U58 16), (U58 17), (U58 18), (U58 19), (U58 20), (U58 21), (U58 22), (U82 23), (U82 24), (U143 25), (U143 26), (U143 27), .bool false, (U0 29), (U0 30), (U0 31), (U0 32), (U0 33), (U0 34), (U0 35), (U0 36), (U0 37), (U0 38), undef, undef, undef, undef, undef, undef, undef, undef, undef, undef, undef, undef, undef, undef, undef, undef, undef]) (by kernel_rfl) ?_
    refine h12 _ _ ?_
    refine wp_block ?_
    have ho144 := own_empty (base := w.heap.size) (size := 1) x75 lo77
    replace ho144 : World.ownsRow _ _ _ _ _ _ (intsV []) := ho144
    have nr145 : NbR (.slice (some ⟨b71, 0, none⟩) 0 0) (.slice A0_10 n0_10 c0_10) := nbr_new nb0_10_b71
    have sp146 := sp_own (n' := 0) (c := 0) sp78
    have sp147 := sp_own (n' := 0) (c := 0) sp79
    have nb148 : Nb b2 (.slice (some ⟨b71, 0, none⟩) 0 0) := nb_new (by have := ne80; omega)
    refine loopK (fun am1 aa1 wl1 => ∃ (i : Nat) (A1_11 : Option Addr) (n1_11 : Nat) (c1_11 : Nat) (U1 : Nat → Value), aa1 = ⟨[.agg #[.int .i64 m, .slice A n c], .slice A2 n2 c2, .int .i64 a, .pointer (some ⟨b2, 0, none⟩), undef, undef, .slice none 0 0, .slice none 0 0, .slice A39 n40 c41, .slice A42 n43 c44, .slice A0_10 n0_10 c0_10, .slice A1_11 n1_11 c1_11, .int .i64 ((j + 1 : Nat) : Int), .int .i64 ((i : Nat) : Int), (U58 14), (U58 15), (U58 16), (U58 17), (U58 18), (U58 19), (U58 20), (U58 21), (U58 22), (U82 23), (U82 24), (U143 25), (U143 26), (U143 27), .bool false, (U0 29), (U0 30), (U0 31), (U0 32), (U0 33), (U0 34), (U0 35), (U0 36), (U0 37), (U0 38), U1 39, U1 40, U1 41, U1 42, U1 43, U1 44, U1 45, U1 46, U1 47, U1 48, U1 49, U1 50, U1 51, U1 52, U1 53, undef, undef].toArray, []⟩ ∧ (am1 = n - i) ∧ (i ≤ n) ∧ (n1_11 ≤ i) ∧ (wl1.heap[b2]? = some (.cells #[.int .i64 m, .slice A n c] 32 (0, 0))) ∧ (wl1.ownsRow w.heap.size 3 1 (.slice A0_10 n0_10 c0_10) n0_10 (intsV (nodesL (linked ps (openQ vs true)) m.toNat a false))) ∧ (wl1.ownsRow w.heap.size 3 1 (.slice A1_11 n1_11 c1_11) n1_11 (intsV (idxL (linked ps (openQ vs true)) i a false))) ∧ (Nb b2 (.slice A1_11 n1_11 c1_11)) ∧ (NbR (.slice A1_11 n1_11 c1_11) (.slice A0_10 n0_10 c0_10)) ∧ (Rd wl1 1 A42 n43 (intsV (idxL (linked ps (openQ vs true)) ps.length a true))) ∧ (Sp A42 n43 (Value.ownBlock (.slice A1_11 n1_11 c1_11))) ∧ (Below w.heap.size w wl1)) (n - 0) ?_ ?_
    · exact ⟨0, (some ⟨b71, 0, none⟩), 0, 0, (fun iU9 => [.agg #[.int .i64 m, .slice A n c], .slice A2 n2 c2, .int .i64 a, .pointer (some ⟨b2, 0, none⟩), undef, undef, .slice none 0 0, .slice none 0 0, .slice A39 n40 c41, .slice A42 n43 c44, .slice A0_10 n0_10 c0_10, .slice (some ⟨b71, 0, none⟩) 0 0, .int .i64 ((j + 1 : Nat) : Int), .int .i64 0, (U58 14), (U58 15), (U58 16), (U58 17), (U58 18), (U58 19), (U58 20), (U58 21), (U58 22), (U82 23), (U82 24), (U143 25), (U143 26), (U143 27), .bool false, (U0 29), (U0 30), (U0 31), (U0 32), (U0 33), (U0 34), (U0 35), (U0 36), (U0 37), (U0 38), undef, undef, undef, undef, undef, undef, undef, undef, undef, undef, undef, undef, undef, undef, undef, undef, undef].getD iU9 undef), (by kernel_rfl), rfl, (Nat.zero_le _), (Nat.zero_le _), x6, (by rw [show m.toNat = j by omega]; exact ho0_10), ho144, nb148, nr145, rd0_9, sp147, c93⟩
    rintro am1 aa1 wl1 K13 h13 ⟨i, A1_11, n1_11, c1_11, U1, rfl, rfl, hi, hb11, x6, ho1_10, ho1_11, nb1_11_b2, nr1_1_0, rd1_9, sp1_9_11, c149⟩
    refine wp_seq_k (fun K14 h14 => ?_)
    refine wp_seq_k (fun K15 h15 => ?_)
    refine W.region_quiet [(0, false), (1, false), (2, false), (3, false), (4, false)] (by kernel_rfl) ?_
    refine W.sq (v := .int .i64 ((i : Nat) : Int)) rfl (r_move rfl (by kernel_rfl)) (by kernel_rfl) rfl rfl ?_
    refine W.sq (v := .pointer (some ⟨b2, 1, none⟩)) rfl (r_field (k := 1) rfl (by kernel_rfl) (by kernel_rfl)) (by kernel_rfl) rfl rfl ?_
    refine W.sq (v := .slice A n c) rfl (r_load rfl (by kernel_rfl) (by kernel_rfl) (eqS (blk_cell (j := 1) x6 (by kernel_rfl)))) (by kernel_rfl) rfl rfl ?_
    refine W.sq (v := .int .i64 ((n : Nat) : Int)) rfl (r_len (A := A) (n := n) (c := c) rfl (by kernel_rfl) (by kernel_rfl)) (by kernel_rfl) rfl rfl ?_
    by_cases q150 : (((i : Nat) : Int) : Int) < (((n : Nat) : Int) : Int)
    · refine W.sq (v := .bool true) rfl (r_lss (m := ((i : Nat) : Int)) (n := ((n : Nat) : Int)) rfl (by kernel_rfl) (by kernel_rfl) (decide_eq_true q150)) (by kernel_rfl) rfl rfl ?_
      refine W.sch_endU (fun U151 => [.agg #[.int .i64 m, .slice A n c], .slice A2 n2 c2, .int .i64 a, .pointer (some ⟨b2, 0, none⟩), undef, undef, .slice none 0 0, .slice none 0 0, .slice A39 n40 c41, .slice A42 n43 c44, .slice A0_10 n0_10 c0_10, .slice A1_11 n1_11 c1_11, .int .i64 ((j + 1 : Nat) : Int), .int .i64 ((i : Nat) : Int), (U58 14), (U58 15), (U58 16), (U58 17), (U58 18), (U58 19), (U58 20), (U58 21), (U58 22), (U82 23), (U82 24), (U143 25), (U143 26), (U143 27), .bool false, (U0 29), (U0 30), (U0 31), (U0 32), (U0 33), (U0 34), (U0 35), (U0 36), (U0 37), (U0 38), U151 39, U151 40, U151 41, U151 42, .bool true, (U1 44), (U1 45), (U1 46), (U1 47), (U1 48), (U1 49), (U1 50), (U1 51), (U1 52), (U1 53), undef, undef]) (by kernel_rfl) (fun U151 => ?_)
      refine h15 _ _ ?_
      refine wp_cond_true (by kernel_rfl) ?_
      refine wp_skip ?_
      refine h14 _ _ ?_
      refine wp_seq_k (fun K16 h16 => ?_)
      refine wp_block ?_
      refine wp_seq_k (fun K17 h17 => ?_)
      refine W.region_plain (row := none) [(0, false), (1, false), (2, true), (3, false)] (by kernel_rfl) ?_
      have s152 := SG.self wl1 none
      refine W.sq (v := .slice A42 n43 c44) rfl (r_move rfl (by kernel_rfl)) (by kernel_rfl) rfl rfl ?_
      refine W.sq (v := .int .i64 ((i : Nat) : Int)) rfl (r_move rfl (by kernel_rfl)) (by kernel_rfl) rfl rfl ?_
      refine W.sc (vs := [.slice A42 n43 c44, .int .i64 ((i : Nat) : Int)]) rfl rfl (by kernel_rfl) (by kernel_rfl) (by kernel_rfl) rfl (l1Has_any A42 n43 c44 (idxL (linked ps (openQ vs true)) ps.length a true) ((i : Nat) : Int) _ (Rd.kept rd1_9 (SG.below s152)) (by omega)) ?_
      rintro e w154 ⟨rfl, b153⟩
      have s155 := SG.of_below s152 b153
      refine ⟨_, rfl, s155, ?_⟩
      have ho156 := own_kept ho1_10 b153
      have ho157 := own_kept ho1_11 b153
      rcases Bool.eq_false_or_eq_true ((idxL (linked ps (openQ vs true)) ps.length a true).contains ((i : Nat) : Int)) with q158 | q158
      · rw [q158]
        refine W.sq (v := .bool false) rfl (r_not (b := true) rfl (by kernel_rfl) rfl) (by kernel_rfl) rfl rfl ?_
        refine W.sch_endU (fun U159 => [.agg #[.int .i64 m, .slice A n c], .slice A2 n2 c2, .int .i64 a, .pointer (some ⟨b2, 0, none⟩), undef, undef, .slice none 0 0, .slice none 0 0, .slice A39 n40 c41, .slice A42 n43 c44, .slice A0_10 n0_10 c0_10, .slice A1_11 n1_11 c1_11, .int .i64 ((j + 1 : Nat) : Int), .int .i64 ((i : Nat) : Int), (U58 14), (U58 15), (U58 16), (U58 17), (U58 18), (U58 19), (U58 20), (U58 21), (U58 22), (U82 23), (U82 24), (U143 25), (U143 26), (U143 27), .bool false, (U0 29), (U0 30), (U0 31), (U0 32), (U0 33), (U0 34), (U0 35), (U0 36), (U0 37), (U0 38), (U151 39), (U151 40), (U151 41), (U151 42), .bool true, (U1 44), (U1 45), U159 46, U159 47, U159 48, .bool false, (U1 50), (U1 51), (U1 52), (U1 53), undef, undef]) (by kernel_rfl) (fun U159 => ?_)
        have x6 := SG.blk s155 x6 (by simp)
        have c160 := (SG.belowR c149 s155 (fun kq e => by cases e))
        have rd161 := Rd.kept rd1_9 (SG.below s155)
        refine h17 _ _ ?_
        refine wp_cond_false (by kernel_rfl) ?_
        refine wp_skip ?_
        refine h16 _ _ ?_
        refine W.region_quiet [(0, false), (1, false), (2, false)] (by kernel_rfl) ?_
        refine W.sq (v := .int .i64 ((i : Nat) : Int)) rfl (r_move rfl (by kernel_rfl)) (by kernel_rfl) rfl rfl ?_
        refine W.sq (v := .int .i64 ((i + 1 : Nat) : Int)) rfl (r_add (m := ((i : Nat) : Int)) (n := 1) (z := ((i + 1 : Nat) : Int)) rfl (by kernel_rfl) (by kernel_rfl) (by omega) (by omega)) (by kernel_rfl) rfl rfl ?_
        refine W.sq (v := .int .i64 ((i + 1 : Nat) : Int)) rfl (r_assign rfl (by kernel_rfl)) (by kernel_rfl) rfl rfl ?_
        refine W.sch_endU (fun U162 => [.agg #[.int .i64 m, .slice A n c], .slice A2 n2 c2, .int .i64 a, .pointer (some ⟨b2, 0, none⟩), undef, undef, .slice none 0 0, .slice none 0 0, .slice A39 n40 c41, .slice A42 n43 c44, .slice A0_10 n0_10 c0_10, .slice A1_11 n1_11 c1_11, .int .i64 ((j + 1 : Nat) : Int), .int .i64 ((i + 1 : Nat) : Int), (U58 14), (U58 15), (U58 16), (U58 17), (U58 18), (U58 19), (U58 20), (U58 21), (U58 22), (U82 23), (U82 24), (U143 25), (U143 26), (U143 27), .bool false, (U0 29), (U0 30), (U0 31), (U0 32), (U0 33), (U0 34), (U0 35), (U0 36), (U0 37), (U0 38), (U151 39), (U151 40), (U151 41), (U151 42), .bool true, U162 44, U162 45, (U159 46), (U159 47), (U159 48), .bool false, (U1 50), (U1 51), (U1 52), (U1 53), undef, undef]) (by kernel_rfl) (fun U162 => ?_)
        exact h13 _ _ _ (by omega : (n - (i + 1)) < _) ⟨i + 1, A1_11, n1_11, c1_11, (fun iU9 => [.agg #[.int .i64 m, .slice A n c], .slice A2 n2 c2, .int .i64 a, .pointer (some ⟨b2, 0, none⟩), undef, undef, .slice none 0 0, .slice none 0 0, .slice A39 n40 c41, .slice A42 n43 c44, .slice A0_10 n0_10 c0_10, .slice A1_11 n1_11 c1_11, .int .i64 ((j + 1 : Nat) : Int), .int .i64 ((i + 1 : Nat) : Int), (U58 14), (U58 15), (U58 16), (U58 17), (U58 18), (U58 19), (U58 20), (U58 21), (U58 22), (U82 23), (U82 24), (U143 25), (U143 26), (U143 27), .bool false, (U0 29), (U0 30), (U0 31), (U0 32), (U0 33), (U0 34), (U0 35), (U0 36), (U0 37), (U0 38), (U151 39), (U151 40), (U151 41), (U151 42), .bool true, (U162 44), (U162 45), (U159 46), (U159 47), (U159 48), .bool false, (U1 50), (U1 51), (U1 52), (U1 53), undef, undef].getD iU9 undef), (by kernel_rfl), rfl, (by omega), (by omega), x6, ho156, (by rw [idxL_no (ne_of_not (by rw [show rb (linked ps (openQ vs true)) a (9 + (i : Int)) = true from (idxL_has (by omega : 0 ≤ (i : Int) ∧ (i : Int) < ps.length)).symm.trans q158]; rfl))]; exact ho157), nb1_11_b2, nr1_1_0, rd161, sp1_9_11, c160⟩
      · rw [q158]
        refine W.sq (v := .bool true) rfl (r_not (b := false) rfl (by kernel_rfl) rfl) (by kernel_rfl) rfl rfl ?_
        refine W.sch_endU (fun U163 => [.agg #[.int .i64 m, .slice A n c], .slice A2 n2 c2, .int .i64 a, .pointer (some ⟨b2, 0, none⟩), undef, undef, .slice none 0 0, .slice none 0 0, .slice A39 n40 c41, .slice A42 n43 c44, .slice A0_10 n0_10 c0_10, .slice A1_11 n1_11 c1_11, .int .i64 ((j + 1 : Nat) : Int), .int .i64 ((i : Nat) : Int), (U58 14), (U58 15), (U58 16), (U58 17), (U58 18), (U58 19), (U58 20), (U58 21), (U58 22), (U82 23), (U82 24), (U143 25), (U143 26), (U143 27), .bool false, (U0 29), (U0 30), (U0 31), (U0 32), (U0 33), (U0 34), (U0 35), (U0 36), (U0 37), (U0 38), (U151 39), (U151 40), (U151 41), (U151 42), .bool true, (U1 44), (U1 45), U163 46, U163 47, U163 48, .bool true, (U1 50), (U1 51), (U1 52), (U1 53), undef, undef]) (by kernel_rfl) (fun U163 => ?_)
        have x6 := SG.blk s155 x6 (by simp)
        have c164 := (SG.belowR c149 s155 (fun kq e => by cases e))
        have rd165 := Rd.kept rd1_9 (SG.below s155)
        refine h17 _ _ ?_
        refine wp_cond_true (by kernel_rfl) ?_
        refine W.region_plain (row := (Value.ownBlock (.slice A1_11 n1_11 c1_11))) [(0, false), (1, false), (2, true), (3, true), (4, false)] (by kernel_rfl) ?_
        have s166 := SG.self w154 (Value.ownBlock (.slice A1_11 n1_11 c1_11))
        refine W.sq (v := .slice A1_11 n1_11 c1_11) rfl (r_move rfl (by kernel_rfl)) (by kernel_rfl) rfl rfl ?_
        refine W.sq (v := .int .i64 ((i : Nat) : Int)) rfl (r_move rfl (by kernel_rfl)) (by kernel_rfl) rfl rfl ?_
        refine W.sn (fun b => .slice (some ⟨b, 0, none⟩) 1 1) #[.int .i64 ((i : Nat) : Int)] 3 s166 rfl (by kernel_rfl) rfl (fun _ => by kernel_rfl) (fun b167 w168 hb169 k170 x171 s172 => ?_)
        have lo173 : w.heap.size ≤ b167 := by have := ((SG.belowR c164 s166 (fun kq e => (World.ownsRow.lt ho157 kq e).1))).size; omega
        have sp174 : Sp A42 n43 (some b167) := sp_new rd165 (by have := World.grownBy.size s166; have := hb169; omega)
        have ne175 : b2 ≠ b167 := by have := blk_lt x6; have := World.grownBy.size s166; omega
        have nb176 : Nb b167 (.slice A0_10 n0_10 c0_10) := nb_hi ho156 (Nat.le_of_eq hb169)
        have nb177 : Nb b167 (.slice A1_11 n1_11 c1_11) := nb_hi ho157 (Nat.le_of_eq hb169)
        have ho178 := own_kept ho156 k170
        have ho179 := own_kept ho157 k170
        refine W.sap (e := 3) (size := 1) (base := w.heap.size) (m := 1) (v := .slice A1_11 n1_11 c1_11) (c := 1) s172 rfl rfl rfl rfl (by kernel_rfl) (by kernel_rfl) (by kernel_rfl) ho179 x171 (by kernel_rfl) (by kernel_rfl) (by omega) (by omega) (by have := ((SG.belowR c164 s172 (fun kq e => (World.ownsRow.lt ho157 kq e).1))).size; omega) (.inl rfl) (fun g180 cap181 w182 ho183 hg184 hat185 hlt186 s187 => ?_)
        have nb188 : Nb b2 (.slice (some ⟨g180, 0, none⟩) (n1_11 + 1) cap181) := nb_app nb1_11_b2 (Nat.lt_of_lt_of_le (blk_lt x6) (World.grownBy.size s172)) hat185
        have nb189 : Nb b167 (.slice (some ⟨g180, 0, none⟩) (n1_11 + 1) cap181) := nb_app nb177 (blk_lt x171) hat185
        have x171 := (hg184.block _ (blk_lt x171) nb177).trans x171
        have ho183 := own_snoc ho183
        have sp190 := sp_app (v' := .slice (some ⟨g180, 0, none⟩) (n1_11 + 1) cap181) sp1_9_11 rd165 (World.grownBy.size s172) (hat3 (v := .slice A1_11 n1_11 c1_11) hat185)
        have nr191 : NbR (.slice (some ⟨g180, 0, none⟩) (n1_11 + 1) cap181) (.slice A0_10 n0_10 c0_10) := nbr_app nr1_1_0 (fun j h => (World.ownsRow.lt ho178 j h).2) (hat3 (v := .slice A1_11 n1_11 c1_11) hat185)
        have ho192 := own_grown ho178 hg184 (NbR.symm nr1_1_0)
        refine W.sq (v := .slice (some ⟨g180, 0, none⟩) (n1_11 + 1) cap181) rfl (r_assign rfl (by kernel_rfl)) (by kernel_rfl) rfl rfl ?_
        refine W.sch_endU (fun U193 => [.agg #[.int .i64 m, .slice A n c], .slice A2 n2 c2, .int .i64 a, .pointer (some ⟨b2, 0, none⟩), undef, undef, .slice none 0 0, .slice none 0 0, .slice A39 n40 c41, .slice A42 n43 c44, .slice A0_10 n0_10 c0_10, .slice (some ⟨g180, 0, none⟩) (n1_11 + 1) cap181, .int .i64 ((j + 1 : Nat) : Int), .int .i64 ((i : Nat) : Int), (U58 14), (U58 15), (U58 16), (U58 17), (U58 18), (U58 19), (U58 20), (U58 21), (U58 22), (U82 23), (U82 24), (U143 25), (U143 26), (U143 27), .bool false, (U0 29), (U0 30), (U0 31), (U0 32), (U0 33), (U0 34), (U0 35), (U0 36), (U0 37), (U0 38), (U151 39), (U151 40), (U151 41), (U151 42), .bool true, (U1 44), (U1 45), (U163 46), (U163 47), (U163 48), .bool true, U193 50, U193 51, U193 52, U193 53, undef, undef]) (by kernel_rfl) (fun U193 => ?_)
        have x6 := SG.blk s187 x6 nb1_11_b2
        have c194 := (SG.belowR c164 s187 (fun kq e => (World.ownsRow.lt ho157 kq e).1))
        have rd195 := rd_sep rd165 s187 sp1_9_11
        refine h16 _ _ ?_
        refine W.region_quiet [(0, false), (1, false), (2, false)] (by kernel_rfl) ?_
        refine W.sq (v := .int .i64 ((i : Nat) : Int)) rfl (r_move rfl (by kernel_rfl)) (by kernel_rfl) rfl rfl ?_
        refine W.sq (v := .int .i64 ((i + 1 : Nat) : Int)) rfl (r_add (m := ((i : Nat) : Int)) (n := 1) (z := ((i + 1 : Nat) : Int)) rfl (by kernel_rfl) (by kernel_rfl) (by omega) (by omega)) (by kernel_rfl) rfl rfl ?_
        refine W.sq (v := .int .i64 ((i + 1 : Nat) : Int)) rfl (r_assign rfl (by kernel_rfl)) (by kernel_rfl) rfl rfl ?_
        refine W.sch_endU (fun U196 => [.agg #[.int .i64 m, .slice A n c], .slice A2 n2 c2, .int .i64 a, .pointer (some ⟨b2, 0, none⟩), undef, undef, .slice none 0 0, .slice none 0 0, .slice A39 n40 c41, .slice A42 n43 c44, .slice A0_10 n0_10 c0_10, .slice (some ⟨g180, 0, none⟩) (n1_11 + 1) cap181, .int .i64 ((j + 1 : Nat) : Int), .int .i64 ((i + 1 : Nat) : Int), (U58 14), (U58 15), (U58 16), (U58 17), (U58 18), (U58 19), (U58 20), (U58 21), (U58 22), (U82 23), (U82 24), (U143 25), (U143 26), (U143 27), .bool false, (U0 29), (U0 30), (U0 31), (U0 32), (U0 33), (U0 34), (U0 35), (U0 36), (U0 37), (U0 38), (U151 39), (U151 40), (U151 41), (U151 42), .bool true, U196 44, U196 45, (U163 46), (U163 47), (U163 48), .bool true, (U193 50), (U193 51), (U193 52), (U193 53), undef, undef]) (by kernel_rfl) (fun U196 => ?_)
        exact h13 _ _ _ (by omega : (n - (i + 1)) < _) ⟨i + 1, (some ⟨g180, 0, none⟩), (n1_11 + 1), cap181, (fun iU9 => [.agg #[.int .i64 m, .slice A n c], .slice A2 n2 c2, .int .i64 a, .pointer (some ⟨b2, 0, none⟩), undef, undef, .slice none 0 0, .slice none 0 0, .slice A39 n40 c41, .slice A42 n43 c44, .slice A0_10 n0_10 c0_10, .slice (some ⟨g180, 0, none⟩) (n1_11 + 1) cap181, .int .i64 ((j + 1 : Nat) : Int), .int .i64 ((i + 1 : Nat) : Int), (U58 14), (U58 15), (U58 16), (U58 17), (U58 18), (U58 19), (U58 20), (U58 21), (U58 22), (U82 23), (U82 24), (U143 25), (U143 26), (U143 27), .bool false, (U0 29), (U0 30), (U0 31), (U0 32), (U0 33), (U0 34), (U0 35), (U0 36), (U0 37), (U0 38), (U151 39), (U151 40), (U151 41), (U151 42), .bool true, (U196 44), (U196 45), (U163 46), (U163 47), (U163 48), .bool true, (U193 50), (U193 51), (U193 52), (U193 53), undef, undef].getD iU9 undef), (by kernel_rfl), rfl, (by omega), (by omega), x6, ho192, (by rw [idxL_yes ((idxL_has (by omega : 0 ≤ (i : Int) ∧ (i : Int) < ps.length)).symm.trans q158)]; exact ho183), nb188, nr191, rd195, sp190, c194⟩
    · refine W.sq (v := .bool false) rfl (r_lss (m := ((i : Nat) : Int)) (n := ((n : Nat) : Int)) rfl (by kernel_rfl) (by kernel_rfl) (decide_eq_false q150)) (by kernel_rfl) rfl rfl ?_
      refine W.sch_endU (fun U197 => [.agg #[.int .i64 m, .slice A n c], .slice A2 n2 c2, .int .i64 a, .pointer (some ⟨b2, 0, none⟩), undef, undef, .slice none 0 0, .slice none 0 0, .slice A39 n40 c41, .slice A42 n43 c44, .slice A0_10 n0_10 c0_10, .slice A1_11 n1_11 c1_11, .int .i64 ((j + 1 : Nat) : Int), .int .i64 ((i : Nat) : Int), (U58 14), (U58 15), (U58 16), (U58 17), (U58 18), (U58 19), (U58 20), (U58 21), (U58 22), (U82 23), (U82 24), (U143 25), (U143 26), (U143 27), .bool false, (U0 29), (U0 30), (U0 31), (U0 32), (U0 33), (U0 34), (U0 35), (U0 36), (U0 37), (U0 38), U197 39, U197 40, U197 41, U197 42, .bool false, (U1 44), (U1 45), (U1 46), (U1 47), (U1 48), (U1 49), (U1 50), (U1 51), (U1 52), (U1 53), undef, undef]) (by kernel_rfl) (fun U197 => ?_)
      refine h15 _ _ ?_
      refine wp_cond_false (by kernel_rfl) ?_
      refine wp_exit ?_
      refine h11 _ _ ?_
      refine wp_seq_k (fun K18 h18 => ?_)
      refine W.region_quiet [(0, false), (1, false), (2, false), (3, false)] (by kernel_rfl) ?_
      refine W.sq (v := .slice A0_10 n0_10 c0_10) rfl (r_move rfl (by kernel_rfl)) (by kernel_rfl) rfl rfl ?_
      refine W.sq (v := .slice A1_11 n1_11 c1_11) rfl (r_move rfl (by kernel_rfl)) (by kernel_rfl) rfl rfl ?_
      refine W.sq (v := .slice A0_10 n0_10 c0_10) rfl (r_assign rfl (by kernel_rfl)) (by kernel_rfl) rfl rfl ?_
      refine W.sq (v := .slice A1_11 n1_11 c1_11) rfl (r_assign rfl (by kernel_rfl)) (by kernel_rfl) rfl rfl ?_
      refine W.sch_endU (fun U198 => [.agg #[.int .i64 m, .slice A n c], .slice A2 n2 c2, .int .i64 a, .pointer (some ⟨b2, 0, none⟩), undef, undef, .slice A0_10 n0_10 c0_10, .slice A1_11 n1_11 c1_11, .slice A39 n40 c41, .slice A42 n43 c44, .slice A0_10 n0_10 c0_10, .slice A1_11 n1_11 c1_11, .int .i64 ((j + 1 : Nat) : Int), .int .i64 ((i : Nat) : Int), (U58 14), (U58 15), (U58 16), (U58 17), (U58 18), (U58 19), (U58 20), (U58 21), (U58 22), (U82 23), (U82 24), (U143 25), (U143 26), (U143 27), .bool false, (U0 29), (U0 30), (U0 31), (U0 32), (U0 33), (U0 34), (U0 35), (U0 36), (U0 37), (U0 38), (U197 39), (U197 40), (U197 41), (U197 42), .bool false, (U1 44), (U1 45), (U1 46), (U1 47), (U1 48), (U1 49), (U1 50), (U1 51), (U1 52), (U1 53), U198 54, U198 55]) (by kernel_rfl) (fun U198 => ?_)
      refine h18 _ _ ?_
      refine wp_ret ?_
      try simp only [Exit.then]
      refine ret2 (v := .slice A0_10 n0_10 c0_10) (x := .slice A1_11 n1_11 c1_11) rfl (by kernel_rfl) (by kernel_rfl) ?_
      exact ⟨_, _, _, _, _, _, rfl, own_rd ho1_10, own_fm ho1_10, (by rw [show ps.length = i by omega]; exact own_rd ho1_11), own_fm ho1_11, c149⟩

end Go.Proofs.Ytnfmdkbelbppdaa
