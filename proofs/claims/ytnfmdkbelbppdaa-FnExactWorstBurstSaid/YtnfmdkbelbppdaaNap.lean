/- Lists out of marks, and of lists: both packages. -/
import Derived.Test.YtnfmdkbelbppdaaSegS
import Derived.Test.YtnfmdkbelbppdaaSch7
namespace Go.Proofs.Ytnfmdkbelbppdaa
open Go.RowKit
set_option linter.unusedVariables false
set_option linter.unusedSimpArgs false

theorem nodesL_yes {E : Int → Int → Prop} {m : Nat} {a : Int} {told : Bool} (h : rb E a ((m : Int) + 1) = told) : nodesL E (m + 1) a told = nodesL E m a told ++ [((m + 1 : Nat) : Int)] := by
  rw [nodesL_succ, if_pos h]; simp
theorem nodesL_no {E : Int → Int → Prop} {m : Nat} {a : Int} {told : Bool} (h : rb E a ((m : Int) + 1) ≠ told) : nodesL E (m + 1) a told = nodesL E m a told := by
  rw [nodesL_succ, if_neg h]; simp
theorem wet_eq {E : Int → Int → Prop} {a : Int} {k : Nat} {x : Bool} (hx : (wetL E a)[k]? = some x) : x = rb E a (k : Int) := by
  have hk : k < 19 := by have := (List.getElem?_eq_some_iff.1 hx).1; rw [wetL_len] at this; exact this
  rw [wetL_at E a hk] at hx; exact (Option.some.inj hx).symm
theorem wet_eq1 {E : Int → Int → Prop} {a : Int} {m : Nat} {x : Bool} (hx : (wetL E a)[m + 1]? = some x) : rb E a ((m : Int) + 1) = x := by
  rw [wet_eq hx]; rfl
theorem wet_eq9 {E : Int → Int → Prop} {a : Int} {i : Nat} {x : Bool} (hx : (wetL E a)[9 + i]? = some x) : rb E a (9 + (i : Int)) = x := by
  rw [wet_eq hx]; exact congrArg _ (by omega)
theorem idsL_yes {E : Int → Int → Prop} {ps : List Pp} {i : Nat} {a : Int} {told : Bool} {p : Pp} (hp : ps[i]? = some p) (h : rb E a (9 + (i : Int)) = told) : idsAt ps (idxL E (i + 1) a told) = idsAt ps (idxL E i a told) ++ [p.id] := by
  rw [idxL_succ, if_pos h, idsAt_snoc hp]
theorem idsL_no {E : Int → Int → Prop} {ps : List Pp} {i : Nat} {a : Int} {told : Bool} (h : rb E a (9 + (i : Int)) ≠ told) : idsAt ps (idxL E (i + 1) a told) = idsAt ps (idxL E i a told) := by
  rw [idxL_succ, if_neg h, List.append_nil]
theorem idsAt_take {ps : List Pp} {xs : List Int} {i : Nat} {y : Int} {p : Pp} (hy : xs[i]? = some y) (hp : ps[y.toNat]? = some p) : idsAt ps (xs.take (i + 1)) = idsAt ps (xs.take i) ++ [p.id] := by
  rw [List.take_add_one, hy]; simp [idsAt, hp]
theorem nodesL_has {E : Int → Int → Prop} {m : Nat} {a b : Int} (hb : 1 ≤ b ∧ b ≤ m) : (nodesL E m a true).contains b = rb E a b := by
  rw [Bool.eq_iff_iff, List.contains_iff_mem, mem_nodesL]
  exact ⟨fun h => h.2, fun h => ⟨hb, h⟩⟩
theorem idxL_has {E : Int → Int → Prop} {n : Nat} {a b : Int} (hb : 0 ≤ b ∧ b < n) : (idxL E n a true).contains b = rb E a (9 + b) := by
  rw [Bool.eq_iff_iff, List.contains_iff_mem, mem_idxL]
  exact ⟨fun h => h.2, fun h => ⟨hb, h⟩⟩
theorem idxL_yes {E : Int → Int → Prop} {i : Nat} {a : Int} {told : Bool} (h : rb E a (9 + (i : Int)) = told) : idxL E (i + 1) a told = idxL E i a told ++ [(i : Int)] := by rw [idxL_succ, if_pos h]
theorem idxL_no {E : Int → Int → Prop} {i : Nat} {a : Int} {told : Bool} (h : rb E a (9 + (i : Int)) ≠ told) : idxL E (i + 1) a told = idxL E i a told := by rw [idxL_succ, if_neg h, List.append_nil]
theorem ne_of_not {a b : Bool} (h : a = !b) : a ≠ b := by cases b <;> simp_all

set_option maxRecDepth 100000 in
set_option maxHeartbeats 1000000 in
theorem l4Dry_any (m : Int) (A : Option Addr) (n c : Nat) (ps : List Pp) (A2 : Option Addr) (n2 c2 : Nat) (vs : List Vv) (a : Int) (w : World) (ha : Rd w 4 A n (pipesV ps)) (hb : Rd w 4 A2 n2 (valvesV vs)) (hn : n ≤ 1048576) (hn2 : n2 ≤ 1048576) (hp : pipesIn ps m.toNat) (hm : 1 ≤ m ∧ m ≤ 8) (hlen10 : ps.length ≤ 10) (hav : 1 ≤ a ∧ a ≤ m) :
    Calls Try.prog 107 #[.agg #[.int .i64 m, .slice A n c], .slice A2 n2 c2, .int .i64 a] w fun e w' => ∃ A5 n5 c5 A6 n6 c6, e = .returned (.tuple #[.slice A5 n5 c5, .slice A6 n6 c6]) ∧ Rd w' 1 A5 n5 (intsV (nodesL (linked ps (openQ vs true)) m.toNat a false)) ∧ Fm A5 n5 c5 ∧ Rd w' 1 A6 n6 (intsV (idxL (linked ps (openQ vs true)) ps.length a false)) ∧ Fm A6 n6 c6 ∧ Below w.heap.size w w' := by
  have hl := rd_pipes_len ha
  have hl2 := rd_valves_len hb
  go_enter Try.func107, Try.ntmps107
  refine wp_seq_k (fun K1 h1 => ?_)
  refine W.region_plain (row := none) [(0, true), (1, false), (2, false)] (by kernel_rfl) ?_
  have s1 := SG.self w none
  refine W.sn (fun b => .pointer (some ⟨b, 0, none⟩)) #[.int .i64 m, .slice A n c] 32 s1 rfl (by kernel_rfl) rfl (fun _ => by kernel_rfl) (fun b2 w3 hb4 k5 x6 s7 => ?_)
  have lo8 : w.heap.size ≤ b2 := by have := ((SG.belowR (Below.refl _ _) s1 (fun kq e => by cases e))).size; omega
  refine W.as (v := .slice none 0 0) (h := ?_)
  refine W.as (v := .slice none 0 0) (h := ?_)
  refine W.endF 56 [(0, .agg #[.int .i64 m, .slice A n c]), (1, .slice A2 n2 c2), (2, .int .i64 a), (3, .pointer (some ⟨b2, 0, none⟩)), (6, .slice none 0 0), (7, .slice none 0 0)] (fun U9 => ?_)
  have c10 := (SG.belowR (Below.refl _ _) s7 (fun kq e => by cases e))
  refine h1 _ _ ?_
  refine wp_seq_k (fun K2 h2 => ?_)
  refine W.region_plain (row := none) [(0, false), (1, false), (2, false), (3, true), (4, true), (5, true), (6, false), (7, false), (8, false), (9, false), (10, false)] (by kernel_rfl) ?_
  have s11 := SG.self w3 none
  refine W.q (v := .agg #[.int .i64 m, .slice A n c]) (hr := (r_load2 rfl (by kernel_rfl) (by kernel_rfl) (by kernel_rfl) (sgS (blk_cell (j := 0) x6 (by kernel_rfl)) (by simp)) (sgS (blk_cell (j := 1) x6 (by kernel_rfl)) (by simp)))) (h := ?_)
  refine W.mv (v := .slice A2 n2 c2) (h := ?_)
  refine W.mv (v := .int .i64 a) (h := ?_)
  refine W.sn (fun b => .slice (some ⟨b, 0, none⟩) 1 1) #[.int .i64 a] 3 s11 rfl (by kernel_rfl) rfl (fun _ => by kernel_rfl) (fun b12 w13 hb14 k15 x16 s17 => ?_)
  have lo18 : w.heap.size ≤ b12 := by have := ((SG.belowR c10 s11 (fun kq e => by cases e))).size; omega
  have ne19 : b2 ≠ b12 := by have := blk_lt x6; have := World.grownBy.size s11; omega
  refine W.sn (fun b => .slice (some ⟨b, 0, none⟩) 0 0) #[] 3 s17 rfl (by kernel_rfl) rfl (fun _ => by kernel_rfl) (fun b20 w21 hb22 k23 x24 s25 => ?_)
  have lo26 : w.heap.size ≤ b20 := by have := ((SG.belowR c10 s17 (fun kq e => by cases e))).size; omega
  have ne27 : b2 ≠ b20 := by have := blk_lt x6; have := World.grownBy.size s17; omega
  have ne28 : b12 ≠ b20 := by have := blk_lt x16; omega
  have x16 := (k23.block _ (blk_lt x16)).trans x16
  have ho29 := own_blk (base := w.heap.size) (size := 1) (n := 1) x16 lo18 rfl (by omega)
  replace ho29 : World.ownsRow _ _ _ _ _ _ (intsV [a]) := ho29
  have nb30 : Nb b2 (.slice (some ⟨b12, 0, none⟩) 1 1) := nb_new (by have := ne19; omega)
  have nb31 : Nb b20 (.slice (some ⟨b12, 0, none⟩) 1 1) := nb_new (by have := ne28; omega)
  have rd33 := own_rd ho29
  have hl34 := rd_ints_len rd33
  have ho35 := own_empty (base := w.heap.size) (size := 1) x24 lo26
  replace ho35 : World.ownsRow _ _ _ _ _ _ (intsV []) := ho35
  have nb36 : Nb b2 (.slice (some ⟨b20, 0, none⟩) 0 0) := nb_new (by have := ne27; omega)
  have rd38 := own_rd ho35
  have hl39 := rd_ints_len rd38
  refine W.sc (vs := [.agg #[.int .i64 m, .slice A n c], .slice A2 n2 c2, .bool true, .slice (some ⟨b12, 0, none⟩) 1 1, .slice (some ⟨b20, 0, none⟩) 0 0]) rfl rfl (by kernel_rfl) (by kernel_rfl) (by kernel_rfl) rfl (l4Spread_true m A n c ps A2 n2 c2 vs a (some ⟨b12, 0, none⟩) 1 1 ([a]) (some ⟨b20, 0, none⟩) 0 0 ([]) _ (Rd.kept ha (SG.belowR c10 s25 (fun kq e => by cases e))) (Rd.kept hb (SG.belowR c10 s25 (fun kq e => by cases e))) (by omega) (by omega) hp (by omega) (by omega) rd33 (own_fm ho29) rd38 (own_fm ho35) (FndQ.startN _ (by omega))) ?_
  rintro e w55 ⟨A40, n41, c42, A43, n44, c45, rfl, rd46, fm47, rd48, fm49, b54⟩
  have s56 := SG.of_below s25 b54
  refine ⟨_, rfl, s56, ?_⟩
  have rd57 := Rd.kept rd33 b54
  have rd58 := Rd.kept rd38 b54
  have hl52 := rd_ints_len rd46
  have hl53 := rd_ints_len rd48
  have := nodesL_len (linked ps (openQ vs true)) m.toNat a true
  have := idxL_len (linked ps (openQ vs true)) ps.length a true
  refine W.mv (v := .tuple #[.slice A40 n41 c42, .slice A43 n44 c45]) (h := ?_)
  refine W.q (v := .slice A40 n41 c42) (hr := (r_extract (vs := #[.slice A40 n41 c42, .slice A43 n44 c45]) rfl (by kernel_rfl) (by kernel_rfl))) (h := ?_)
  refine W.q (v := .slice A43 n44 c45) (hr := (r_extract (vs := #[.slice A40 n41 c42, .slice A43 n44 c45]) rfl (by kernel_rfl) (by kernel_rfl))) (h := ?_)
  refine W.as (v := .slice A40 n41 c42) (h := ?_)
  refine W.as (v := .slice A43 n44 c45) (h := ?_)
  refine W.endF 56 [(0, .agg #[.int .i64 m, .slice A n c]), (1, .slice A2 n2 c2), (2, .int .i64 a), (3, .pointer (some ⟨b2, 0, none⟩)), (6, .slice none 0 0), (7, .slice none 0 0), (8, .slice A40 n41 c42), (9, .slice A43 n44 c45)] (fun U59 => ?_)
  have x6 := SG.blk s56 x6 (by simp)
  have c60 := (SG.belowR c10 s56 (fun kq e => by cases e))
  refine h2 _ _ ?_
  refine wp_seq_k (fun K3 h3 => ?_)
  refine W.region_plain (row := none) [(0, true), (1, true), (2, false), (3, false)] (by kernel_rfl) ?_
  have s61 := SG.self w55 none
  refine W.sn (fun b => .slice (some ⟨b, 0, none⟩) 0 0) #[] 3 s61 rfl (by kernel_rfl) rfl (fun _ => by kernel_rfl) (fun b62 w63 hb64 k65 x66 s67 => ?_)
  have lo68 : w.heap.size ≤ b62 := by have := ((SG.belowR c60 s61 (fun kq e => by cases e))).size; omega
  have sp69 : Sp A40 n41 (some b62) := sp_new rd46 (by have := World.grownBy.size s61; have := hb64; omega)
  have sp70 : Sp A43 n44 (some b62) := sp_new rd48 (by have := World.grownBy.size s61; have := hb64; omega)
  have ne71 : b2 ≠ b62 := by have := blk_lt x6; have := World.grownBy.size s61; omega
  refine W.sn (fun b => .slice (some ⟨b, 0, none⟩) 0 0) #[] 3 s67 rfl (by kernel_rfl) rfl (fun _ => by kernel_rfl) (fun b72 w73 hb74 k75 x76 s77 => ?_)
  have lo78 : w.heap.size ≤ b72 := by have := ((SG.belowR c60 s67 (fun kq e => by cases e))).size; omega
  have sp79 : Sp A40 n41 (some b72) := sp_new rd46 (by have := World.grownBy.size s67; have := hb74; omega)
  have sp80 : Sp A43 n44 (some b72) := sp_new rd48 (by have := World.grownBy.size s67; have := hb74; omega)
  have ne81 : b2 ≠ b72 := by have := blk_lt x6; have := World.grownBy.size s67; omega
  have ne82 : b62 ≠ b72 := by have := blk_lt x66; omega
  have x66 := (k75.block _ (blk_lt x66)).trans x66
  refine W.as (v := .slice (some ⟨b62, 0, none⟩) 0 0) (h := ?_)
  refine W.as (v := .slice (some ⟨b72, 0, none⟩) 0 0) (h := ?_)
  refine W.endF 56 [(0, .agg #[.int .i64 m, .slice A n c]), (1, .slice A2 n2 c2), (2, .int .i64 a), (3, .pointer (some ⟨b2, 0, none⟩)), (6, .slice none 0 0), (7, .slice none 0 0), (8, .slice A40 n41 c42), (9, .slice A43 n44 c45), (10, .slice (some ⟨b62, 0, none⟩) 0 0), (11, .slice (some ⟨b72, 0, none⟩) 0 0)] (fun U83 => ?_)
  have x6 := SG.blk s77 x6 (by simp)
  have c84 := (SG.belowR c60 s77 (fun kq e => by cases e))
  have rd85 := Rd.kept rd57 (SG.below s77)
  have rd86 := Rd.kept rd58 (SG.below s77)
  have rd87 := Rd.kept rd46 (SG.below s77)
  have rd88 := Rd.kept rd48 (SG.below s77)
  refine h3 _ _ ?_
  refine wp_seq_k (fun K4 h4 => ?_)
  refine wp_seq_k (fun K5 h5 => ?_)
  refine W.region_quiet [(0, false)] (by kernel_rfl) ?_
  refine W.as (v := .int .i64 1) (h := ?_)
  refine W.endF 56 [(0, .agg #[.int .i64 m, .slice A n c]), (1, .slice A2 n2 c2), (2, .int .i64 a), (3, .pointer (some ⟨b2, 0, none⟩)), (6, .slice none 0 0), (7, .slice none 0 0), (8, .slice A40 n41 c42), (9, .slice A43 n44 c45), (10, .slice (some ⟨b62, 0, none⟩) 0 0), (11, .slice (some ⟨b72, 0, none⟩) 0 0), (12, .int .i64 1)] (fun U89 => ?_)
  refine h5 _ _ ?_
  refine wp_block ?_
  have ho90 := own_empty (base := w.heap.size) (size := 1) x66 lo68
  replace ho90 : World.ownsRow _ _ _ _ _ _ (intsV []) := ho90
  have sp91 := sp_own (n' := 0) (c := 0) sp69
  have sp92 := sp_own (n' := 0) (c := 0) sp70
  have nb93 : Nb b2 (.slice (some ⟨b62, 0, none⟩) 0 0) := nb_new (by have := ne71; omega)
  have nb94 : Nb b72 (.slice (some ⟨b62, 0, none⟩) 0 0) := nb_new (by have := ne82; omega)
  refine loopK (fun am0 aa0 wl0 => ∃ (j : Nat) (A0_10 : Option Addr) (n0_10 : Nat) (c0_10 : Nat) (U0 : Nat → Value), aa0 = ⟨(fr U0 [(0, .agg #[.int .i64 m, .slice A n c]), (1, .slice A2 n2 c2), (2, .int .i64 a), (3, .pointer (some ⟨b2, 0, none⟩)), (6, .slice none 0 0), (7, .slice none 0 0), (8, .slice A40 n41 c42), (9, .slice A43 n44 c45), (10, .slice A0_10 n0_10 c0_10), (11, .slice (some ⟨b72, 0, none⟩) 0 0), (12, .int .i64 ((j + 1 : Nat) : Int))] 56 0).toArray, []⟩ ∧ (am0 = m.toNat - j) ∧ (j ≤ m.toNat) ∧ (n0_10 ≤ j) ∧ (wl0.heap[b2]? = some (.cells #[.int .i64 m, .slice A n c] 32 (0, 0))) ∧ (wl0.heap[b72]? = some (.cells #[] 3 (0, 0))) ∧ (wl0.ownsRow w.heap.size 3 1 (.slice A0_10 n0_10 c0_10) n0_10 (intsV (nodesL (linked ps (openQ vs true)) j a false))) ∧ (Nb b2 (.slice A0_10 n0_10 c0_10)) ∧ (Nb b72 (.slice A0_10 n0_10 c0_10)) ∧ (Rd wl0 1 A40 n41 (intsV (nodesL (linked ps (openQ vs true)) m.toNat a true))) ∧ (Rd wl0 1 A43 n44 (intsV (idxL (linked ps (openQ vs true)) ps.length a true))) ∧ (Sp A40 n41 (Value.ownBlock (.slice A0_10 n0_10 c0_10))) ∧ (Sp A43 n44 (Value.ownBlock (.slice A0_10 n0_10 c0_10))) ∧ (Below w.heap.size w wl0)) (m.toNat - 0) ?_ ?_
  · exact ⟨0, (some ⟨b62, 0, none⟩), 0, 0, (fun iU9 => lk [(0, .agg #[.int .i64 m, .slice A n c]), (1, .slice A2 n2 c2), (2, .int .i64 a), (3, .pointer (some ⟨b2, 0, none⟩)), (6, .slice none 0 0), (7, .slice none 0 0), (8, .slice A40 n41 c42), (9, .slice A43 n44 c45), (10, .slice (some ⟨b62, 0, none⟩) 0 0), (11, .slice (some ⟨b72, 0, none⟩) 0 0), (12, .int .i64 1)] iU9 (U89 iU9)), (by kernel_rfl), rfl, (Nat.zero_le _), (Nat.zero_le _), x6, x76, ho90, nb93, nb94, rd87, rd88, sp91, sp92, c84⟩
  rintro am0 aa0 wl0 K6 h6 ⟨j, A0_10, n0_10, c0_10, U0, rfl, rfl, hj, hb10, x6, x76, ho0_10, nb0_10_b2, nb0_10_b72, rd0_8, rd0_9, sp0_8_10, sp0_9_10, c95⟩
  refine wp_seq_k (fun K7 h7 => ?_)
  refine wp_seq_k (fun K8 h8 => ?_)
  refine W.region_quiet [(0, false), (1, false), (2, false), (3, false)] (by kernel_rfl) ?_
  refine W.mv (v := .int .i64 ((j + 1 : Nat) : Int)) (h := ?_)
  refine W.q (v := .pointer (some ⟨b2, 0, none⟩)) (hr := (r_field0 rfl (by kernel_rfl) (by kernel_rfl))) (h := ?_)
  refine W.ld (v := .int .i64 m) (hc := (eqS (blk_cell (j := 0) x6 (by kernel_rfl)))) (h := ?_)
  by_cases q96 : (((j + 1 : Nat) : Int) : Int) ≤ (m : Int)
  · refine W.q (v := .bool true) (hr := (r_leq (m := ((j + 1 : Nat) : Int)) (n := m) rfl (by kernel_rfl) (by kernel_rfl) (decide_eq_true q96))) (h := ?_)
    refine W.endF 56 [(0, .agg #[.int .i64 m, .slice A n c]), (1, .slice A2 n2 c2), (2, .int .i64 a), (3, .pointer (some ⟨b2, 0, none⟩)), (6, .slice none 0 0), (7, .slice none 0 0), (8, .slice A40 n41 c42), (9, .slice A43 n44 c45), (10, .slice A0_10 n0_10 c0_10), (11, .slice (some ⟨b72, 0, none⟩) 0 0), (12, .int .i64 ((j + 1 : Nat) : Int)), (28, .bool true)] (fun U97 => ?_)
    refine h8 _ _ ?_
    refine wp_cond_true (by kernel_rfl) ?_
    refine wp_skip ?_
    refine h7 _ _ ?_
    refine wp_seq_k (fun K9 h9 => ?_)
    refine wp_block ?_
    refine wp_seq_k (fun K10 h10 => ?_)
    refine W.region_plain (row := none) [(0, false), (1, false), (2, true), (3, false)] (by kernel_rfl) ?_
    have s98 := SG.self wl0 none
    refine W.mv (v := .slice A40 n41 c42) (h := ?_)
    refine W.mv (v := .int .i64 ((j + 1 : Nat) : Int)) (h := ?_)
    refine W.sc (vs := [.slice A40 n41 c42, .int .i64 ((j + 1 : Nat) : Int)]) rfl rfl (by kernel_rfl) (by kernel_rfl) (by kernel_rfl) rfl (l1Has_any A40 n41 c42 (nodesL (linked ps (openQ vs true)) m.toNat a true) ((j + 1 : Nat) : Int) _ (Rd.kept rd0_8 (SG.below s98)) (by omega)) ?_
    rintro e w100 ⟨rfl, b99⟩
    have s101 := SG.of_below s98 b99
    refine ⟨_, rfl, s101, ?_⟩
    have ho102 := own_kept ho0_10 b99
    rcases Bool.eq_false_or_eq_true ((nodesL (linked ps (openQ vs true)) m.toNat a true).contains ((j + 1 : Nat) : Int)) with q103 | q103
    · rw [q103]
      refine W.q (v := .bool false) (hr := (r_not (b := true) rfl (by kernel_rfl) rfl)) (h := ?_)
      refine W.endF 56 [(0, .agg #[.int .i64 m, .slice A n c]), (1, .slice A2 n2 c2), (2, .int .i64 a), (3, .pointer (some ⟨b2, 0, none⟩)), (6, .slice none 0 0), (7, .slice none 0 0), (8, .slice A40 n41 c42), (9, .slice A43 n44 c45), (10, .slice A0_10 n0_10 c0_10), (11, .slice (some ⟨b72, 0, none⟩) 0 0), (12, .int .i64 ((j + 1 : Nat) : Int)), (28, .bool true), (34, .bool false)] (fun U104 => ?_)
      have x6 := SG.blk s101 x6 (by simp)
      have x76 := SG.blk s101 x76 (by simp)
      have c105 := (SG.belowR c95 s101 (fun kq e => by cases e))
      have rd106 := Rd.kept rd0_8 (SG.below s101)
      have rd107 := Rd.kept rd0_9 (SG.below s101)
      refine h10 _ _ ?_
      refine wp_cond_false (by kernel_rfl) ?_
      refine wp_skip ?_
      refine h9 _ _ ?_
      refine W.region_quiet [(0, false), (1, false), (2, false)] (by kernel_rfl) ?_
      refine W.mv (v := .int .i64 ((j + 1 : Nat) : Int)) (h := ?_)
      refine W.q (v := .int .i64 ((j + 1 + 1 : Nat) : Int)) (hr := (r_add (m := ((j + 1 : Nat) : Int)) (n := 1) (z := ((j + 1 + 1 : Nat) : Int)) rfl (by kernel_rfl) (by kernel_rfl) (by omega) (by omega))) (h := ?_)
      refine W.as (v := .int .i64 ((j + 1 + 1 : Nat) : Int)) (h := ?_)
      refine W.endF 56 [(0, .agg #[.int .i64 m, .slice A n c]), (1, .slice A2 n2 c2), (2, .int .i64 a), (3, .pointer (some ⟨b2, 0, none⟩)), (6, .slice none 0 0), (7, .slice none 0 0), (8, .slice A40 n41 c42), (9, .slice A43 n44 c45), (10, .slice A0_10 n0_10 c0_10), (11, .slice (some ⟨b72, 0, none⟩) 0 0), (12, .int .i64 ((j + 1 + 1 : Nat) : Int)), (28, .bool true), (34, .bool false)] (fun U108 => ?_)
      exact h6 _ _ _ (by omega : (m.toNat - (j + 1)) < _) ⟨j + 1, A0_10, n0_10, c0_10, (fun iU9 => lk [(0, .agg #[.int .i64 m, .slice A n c]), (1, .slice A2 n2 c2), (2, .int .i64 a), (3, .pointer (some ⟨b2, 0, none⟩)), (6, .slice none 0 0), (7, .slice none 0 0), (8, .slice A40 n41 c42), (9, .slice A43 n44 c45), (10, .slice A0_10 n0_10 c0_10), (11, .slice (some ⟨b72, 0, none⟩) 0 0), (12, .int .i64 ((j + 1 + 1 : Nat) : Int)), (28, .bool true), (34, .bool false)] iU9 (U108 iU9)), (by kernel_rfl), rfl, (by omega), (by omega), x6, x76, (by rw [nodesL_no (ne_of_not (by rw [show rb (linked ps (openQ vs true)) a ((j : Int) + 1) = true from (nodesL_has (by omega : 1 ≤ ((j + 1 : Nat) : Int) ∧ ((j + 1 : Nat) : Int) ≤ m.toNat)).symm.trans q103]; rfl))]; exact ho102), nb0_10_b2, nb0_10_b72, rd106, rd107, sp0_8_10, sp0_9_10, c105⟩
    · rw [q103]
      refine W.q (v := .bool true) (hr := (r_not (b := false) rfl (by kernel_rfl) rfl)) (h := ?_)
      refine W.endF 56 [(0, .agg #[.int .i64 m, .slice A n c]), (1, .slice A2 n2 c2), (2, .int .i64 a), (3, .pointer (some ⟨b2, 0, none⟩)), (6, .slice none 0 0), (7, .slice none 0 0), (8, .slice A40 n41 c42), (9, .slice A43 n44 c45), (10, .slice A0_10 n0_10 c0_10), (11, .slice (some ⟨b72, 0, none⟩) 0 0), (12, .int .i64 ((j + 1 : Nat) : Int)), (28, .bool true), (34, .bool true)] (fun U109 => ?_)
      have x6 := SG.blk s101 x6 (by simp)
      have x76 := SG.blk s101 x76 (by simp)
      have c110 := (SG.belowR c95 s101 (fun kq e => by cases e))
      have rd111 := Rd.kept rd0_8 (SG.below s101)
      have rd112 := Rd.kept rd0_9 (SG.below s101)
      refine h10 _ _ ?_
      refine wp_cond_true (by kernel_rfl) ?_
      refine W.region_plain (row := (Value.ownBlock (.slice A0_10 n0_10 c0_10))) [(0, false), (1, false), (2, true), (3, true), (4, false)] (by kernel_rfl) ?_
      have s113 := SG.self w100 (Value.ownBlock (.slice A0_10 n0_10 c0_10))
      refine W.mv (v := .slice A0_10 n0_10 c0_10) (h := ?_)
      refine W.mv (v := .int .i64 ((j + 1 : Nat) : Int)) (h := ?_)
      refine W.sn (fun b => .slice (some ⟨b, 0, none⟩) 1 1) #[.int .i64 ((j + 1 : Nat) : Int)] 3 s113 rfl (by kernel_rfl) rfl (fun _ => by kernel_rfl) (fun b114 w115 hb116 k117 x118 s119 => ?_)
      have lo120 : w.heap.size ≤ b114 := by have := ((SG.belowR c110 s113 (fun kq e => (World.ownsRow.lt ho102 kq e).1))).size; omega
      have sp121 : Sp A40 n41 (some b114) := sp_new rd111 (by have := World.grownBy.size s113; have := hb116; omega)
      have sp122 : Sp A43 n44 (some b114) := sp_new rd112 (by have := World.grownBy.size s113; have := hb116; omega)
      have ne123 : b2 ≠ b114 := by have := blk_lt x6; have := World.grownBy.size s113; omega
      have ne124 : b72 ≠ b114 := by have := blk_lt x76; have := World.grownBy.size s113; omega
      have nb125 : Nb b114 (.slice A0_10 n0_10 c0_10) := nb_hi ho102 (Nat.le_of_eq hb116)
      have ho126 := own_kept ho102 k117
      refine W.sap (e := 3) (size := 1) (base := w.heap.size) (m := 1) (v := .slice A0_10 n0_10 c0_10) (c := 1) s119 rfl rfl rfl rfl (by kernel_rfl) (by kernel_rfl) (by kernel_rfl) ho126 x118 (by kernel_rfl) (by kernel_rfl) (by omega) (by omega) (by have := ((SG.belowR c110 s119 (fun kq e => (World.ownsRow.lt ho102 kq e).1))).size; omega) (.inl rfl) (fun g127 cap128 w129 ho130 hg131 hat132 hlt133 s134 => ?_)
      have nb135 : Nb b2 (.slice (some ⟨g127, 0, none⟩) (n0_10 + 1) cap128) := nb_app nb0_10_b2 (Nat.lt_of_lt_of_le (blk_lt x6) (World.grownBy.size s119)) hat132
      have nb136 : Nb b72 (.slice (some ⟨g127, 0, none⟩) (n0_10 + 1) cap128) := nb_app nb0_10_b72 (Nat.lt_of_lt_of_le (blk_lt x76) (World.grownBy.size s119)) hat132
      have nb137 : Nb b114 (.slice (some ⟨g127, 0, none⟩) (n0_10 + 1) cap128) := nb_app nb125 (blk_lt x118) hat132
      have x118 := (hg131.block _ (blk_lt x118) nb125).trans x118
      have ho130 := own_snoc ho130
      have sp138 := sp_app (v' := .slice (some ⟨g127, 0, none⟩) (n0_10 + 1) cap128) sp0_8_10 rd111 (World.grownBy.size s119) (hat3 (v := .slice A0_10 n0_10 c0_10) hat132)
      have sp139 := sp_app (v' := .slice (some ⟨g127, 0, none⟩) (n0_10 + 1) cap128) sp0_9_10 rd112 (World.grownBy.size s119) (hat3 (v := .slice A0_10 n0_10 c0_10) hat132)
      refine W.as (v := .slice (some ⟨g127, 0, none⟩) (n0_10 + 1) cap128) (h := ?_)
      refine W.endF 56 [(0, .agg #[.int .i64 m, .slice A n c]), (1, .slice A2 n2 c2), (2, .int .i64 a), (3, .pointer (some ⟨b2, 0, none⟩)), (6, .slice none 0 0), (7, .slice none 0 0), (8, .slice A40 n41 c42), (9, .slice A43 n44 c45), (10, .slice (some ⟨g127, 0, none⟩) (n0_10 + 1) cap128), (11, .slice (some ⟨b72, 0, none⟩) 0 0), (12, .int .i64 ((j + 1 : Nat) : Int)), (28, .bool true), (34, .bool true)] (fun U140 => ?_)
      have x6 := SG.blk s134 x6 nb0_10_b2
      have x76 := SG.blk s134 x76 nb0_10_b72
      have c141 := (SG.belowR c110 s134 (fun kq e => (World.ownsRow.lt ho102 kq e).1))
      have rd142 := rd_sep rd111 s134 sp0_8_10
      have rd143 := rd_sep rd112 s134 sp0_9_10
      refine h9 _ _ ?_
      refine W.region_quiet [(0, false), (1, false), (2, false)] (by kernel_rfl) ?_
      refine W.mv (v := .int .i64 ((j + 1 : Nat) : Int)) (h := ?_)
      refine W.q (v := .int .i64 ((j + 1 + 1 : Nat) : Int)) (hr := (r_add (m := ((j + 1 : Nat) : Int)) (n := 1) (z := ((j + 1 + 1 : Nat) : Int)) rfl (by kernel_rfl) (by kernel_rfl) (by omega) (by omega))) (h := ?_)
      refine W.as (v := .int .i64 ((j + 1 + 1 : Nat) : Int)) (h := ?_)
      refine W.endF 56 [(0, .agg #[.int .i64 m, .slice A n c]), (1, .slice A2 n2 c2), (2, .int .i64 a), (3, .pointer (some ⟨b2, 0, none⟩)), (6, .slice none 0 0), (7, .slice none 0 0), (8, .slice A40 n41 c42), (9, .slice A43 n44 c45), (10, .slice (some ⟨g127, 0, none⟩) (n0_10 + 1) cap128), (11, .slice (some ⟨b72, 0, none⟩) 0 0), (12, .int .i64 ((j + 1 + 1 : Nat) : Int)), (28, .bool true), (34, .bool true)] (fun U144 => ?_)
      exact h6 _ _ _ (by omega : (m.toNat - (j + 1)) < _) ⟨j + 1, (some ⟨g127, 0, none⟩), (n0_10 + 1), cap128, (fun iU9 => lk [(0, .agg #[.int .i64 m, .slice A n c]), (1, .slice A2 n2 c2), (2, .int .i64 a), (3, .pointer (some ⟨b2, 0, none⟩)), (6, .slice none 0 0), (7, .slice none 0 0), (8, .slice A40 n41 c42), (9, .slice A43 n44 c45), (10, .slice (some ⟨g127, 0, none⟩) (n0_10 + 1) cap128), (11, .slice (some ⟨b72, 0, none⟩) 0 0), (12, .int .i64 ((j + 1 + 1 : Nat) : Int)), (28, .bool true), (34, .bool true)] iU9 (U144 iU9)), (by kernel_rfl), rfl, (by omega), (by omega), x6, x76, (by rw [nodesL_yes ((nodesL_has (by omega : 1 ≤ ((j + 1 : Nat) : Int) ∧ ((j + 1 : Nat) : Int) ≤ m.toNat)).symm.trans q103)]; exact ho130), nb135, nb136, rd142, rd143, sp138, sp139, c141⟩
  · refine W.q (v := .bool false) (hr := (r_leq (m := ((j + 1 : Nat) : Int)) (n := m) rfl (by kernel_rfl) (by kernel_rfl) (decide_eq_false q96))) (h := ?_)
    refine W.endF 56 [(0, .agg #[.int .i64 m, .slice A n c]), (1, .slice A2 n2 c2), (2, .int .i64 a), (3, .pointer (some ⟨b2, 0, none⟩)), (6, .slice none 0 0), (7, .slice none 0 0), (8, .slice A40 n41 c42), (9, .slice A43 n44 c45), (10, .slice A0_10 n0_10 c0_10), (11, .slice (some ⟨b72, 0, none⟩) 0 0), (12, .int .i64 ((j + 1 : Nat) : Int)), (28, .bool false)] (fun U145 => ?_)
    refine h8 _ _ ?_
    refine wp_cond_false (by kernel_rfl) ?_
    refine wp_exit ?_
    refine h4 _ _ ?_
    refine wp_seq_k (fun K11 h11 => ?_)
    refine wp_seq_k (fun K12 h12 => ?_)
    refine W.region_quiet [(0, false)] (by kernel_rfl) ?_
    refine W.as (v := .int .i64 0) (h := ?_)
    refine W.endF 56 [(0, .agg #[.int .i64 m, .slice A n c]), (1, .slice A2 n2 c2), (2, .int .i64 a), (3, .pointer (some ⟨b2, 0, none⟩)), (6, .slice none 0 0), (7, .slice none 0 0), (8, .slice A40 n41 c42), (9, .slice A43 n44 c45), (10, .slice A0_10 n0_10 c0_10), (11, .slice (some ⟨b72, 0, none⟩) 0 0), (12, .int .i64 ((j + 1 : Nat) : Int)), (13, .int .i64 0), (28, .bool false)] (fun U146 => ?_)
    refine h12 _ _ ?_
    refine wp_block ?_
    have ho147 := own_empty (base := w.heap.size) (size := 1) x76 lo78
    replace ho147 : World.ownsRow _ _ _ _ _ _ (intsV []) := ho147
    have nr148 : NbR (.slice (some ⟨b72, 0, none⟩) 0 0) (.slice A0_10 n0_10 c0_10) := nbr_new nb0_10_b72
    have sp149 := sp_own (n' := 0) (c := 0) sp79
    have sp150 := sp_own (n' := 0) (c := 0) sp80
    have nb151 : Nb b2 (.slice (some ⟨b72, 0, none⟩) 0 0) := nb_new (by have := ne81; omega)
    refine loopK (fun am1 aa1 wl1 => ∃ (i : Nat) (A1_11 : Option Addr) (n1_11 : Nat) (c1_11 : Nat) (U1 : Nat → Value), aa1 = ⟨(fr U1 [(0, .agg #[.int .i64 m, .slice A n c]), (1, .slice A2 n2 c2), (2, .int .i64 a), (3, .pointer (some ⟨b2, 0, none⟩)), (6, .slice none 0 0), (7, .slice none 0 0), (8, .slice A40 n41 c42), (9, .slice A43 n44 c45), (10, .slice A0_10 n0_10 c0_10), (11, .slice A1_11 n1_11 c1_11), (12, .int .i64 ((j + 1 : Nat) : Int)), (13, .int .i64 ((i : Nat) : Int)), (28, .bool false)] 56 0).toArray, []⟩ ∧ (am1 = n - i) ∧ (i ≤ n) ∧ (n1_11 ≤ i) ∧ (wl1.heap[b2]? = some (.cells #[.int .i64 m, .slice A n c] 32 (0, 0))) ∧ (wl1.ownsRow w.heap.size 3 1 (.slice A0_10 n0_10 c0_10) n0_10 (intsV (nodesL (linked ps (openQ vs true)) m.toNat a false))) ∧ (wl1.ownsRow w.heap.size 3 1 (.slice A1_11 n1_11 c1_11) n1_11 (intsV (idxL (linked ps (openQ vs true)) i a false))) ∧ (Nb b2 (.slice A1_11 n1_11 c1_11)) ∧ (NbR (.slice A1_11 n1_11 c1_11) (.slice A0_10 n0_10 c0_10)) ∧ (Rd wl1 1 A43 n44 (intsV (idxL (linked ps (openQ vs true)) ps.length a true))) ∧ (Sp A43 n44 (Value.ownBlock (.slice A1_11 n1_11 c1_11))) ∧ (Below w.heap.size w wl1)) (n - 0) ?_ ?_
    · exact ⟨0, (some ⟨b72, 0, none⟩), 0, 0, (fun iU9 => lk [(0, .agg #[.int .i64 m, .slice A n c]), (1, .slice A2 n2 c2), (2, .int .i64 a), (3, .pointer (some ⟨b2, 0, none⟩)), (6, .slice none 0 0), (7, .slice none 0 0), (8, .slice A40 n41 c42), (9, .slice A43 n44 c45), (10, .slice A0_10 n0_10 c0_10), (11, .slice (some ⟨b72, 0, none⟩) 0 0), (12, .int .i64 ((j + 1 : Nat) : Int)), (13, .int .i64 0), (28, .bool false)] iU9 (U146 iU9)), (by kernel_rfl), rfl, (Nat.zero_le _), (Nat.zero_le _), x6, (by rw [show m.toNat = j by omega]; exact ho0_10), ho147, nb151, nr148, rd0_9, sp150, c95⟩
    rintro am1 aa1 wl1 K13 h13 ⟨i, A1_11, n1_11, c1_11, U1, rfl, rfl, hi, hb11, x6, ho1_10, ho1_11, nb1_11_b2, nr1_1_0, rd1_9, sp1_9_11, c152⟩
    refine wp_seq_k (fun K14 h14 => ?_)
    refine wp_seq_k (fun K15 h15 => ?_)
    refine W.region_quiet [(0, false), (1, false), (2, false), (3, false), (4, false)] (by kernel_rfl) ?_
    refine W.mv (v := .int .i64 ((i : Nat) : Int)) (h := ?_)
    refine W.q (v := .pointer (some ⟨b2, 1, none⟩)) (hr := (r_field (k := 1) rfl (by kernel_rfl) (by kernel_rfl))) (h := ?_)
    refine W.ld (v := .slice A n c) (hc := (eqS (blk_cell (j := 1) x6 (by kernel_rfl)))) (h := ?_)
    refine W.q (v := .int .i64 ((n : Nat) : Int)) (hr := (r_len (A := A) (n := n) (c := c) rfl (by kernel_rfl) (by kernel_rfl))) (h := ?_)
    by_cases q153 : (((i : Nat) : Int) : Int) < (((n : Nat) : Int) : Int)
    · refine W.q (v := .bool true) (hr := (r_lss (m := ((i : Nat) : Int)) (n := ((n : Nat) : Int)) rfl (by kernel_rfl) (by kernel_rfl) (decide_eq_true q153))) (h := ?_)
      refine W.endF 56 [(0, .agg #[.int .i64 m, .slice A n c]), (1, .slice A2 n2 c2), (2, .int .i64 a), (3, .pointer (some ⟨b2, 0, none⟩)), (6, .slice none 0 0), (7, .slice none 0 0), (8, .slice A40 n41 c42), (9, .slice A43 n44 c45), (10, .slice A0_10 n0_10 c0_10), (11, .slice A1_11 n1_11 c1_11), (12, .int .i64 ((j + 1 : Nat) : Int)), (13, .int .i64 ((i : Nat) : Int)), (28, .bool false), (43, .bool true)] (fun U154 => ?_)
      refine h15 _ _ ?_
      refine wp_cond_true (by kernel_rfl) ?_
      refine wp_skip ?_
      refine h14 _ _ ?_
      refine wp_seq_k (fun K16 h16 => ?_)
      refine wp_block ?_
      refine wp_seq_k (fun K17 h17 => ?_)
      refine W.region_plain (row := none) [(0, false), (1, false), (2, true), (3, false)] (by kernel_rfl) ?_
      have s155 := SG.self wl1 none
      refine W.mv (v := .slice A43 n44 c45) (h := ?_)
      refine W.mv (v := .int .i64 ((i : Nat) : Int)) (h := ?_)
      refine W.sc (vs := [.slice A43 n44 c45, .int .i64 ((i : Nat) : Int)]) rfl rfl (by kernel_rfl) (by kernel_rfl) (by kernel_rfl) rfl (l1Has_any A43 n44 c45 (idxL (linked ps (openQ vs true)) ps.length a true) ((i : Nat) : Int) _ (Rd.kept rd1_9 (SG.below s155)) (by omega)) ?_
      rintro e w157 ⟨rfl, b156⟩
      have s158 := SG.of_below s155 b156
      refine ⟨_, rfl, s158, ?_⟩
      have ho159 := own_kept ho1_10 b156
      have ho160 := own_kept ho1_11 b156
      rcases Bool.eq_false_or_eq_true ((idxL (linked ps (openQ vs true)) ps.length a true).contains ((i : Nat) : Int)) with q161 | q161
      · rw [q161]
        refine W.q (v := .bool false) (hr := (r_not (b := true) rfl (by kernel_rfl) rfl)) (h := ?_)
        refine W.endF 56 [(0, .agg #[.int .i64 m, .slice A n c]), (1, .slice A2 n2 c2), (2, .int .i64 a), (3, .pointer (some ⟨b2, 0, none⟩)), (6, .slice none 0 0), (7, .slice none 0 0), (8, .slice A40 n41 c42), (9, .slice A43 n44 c45), (10, .slice A0_10 n0_10 c0_10), (11, .slice A1_11 n1_11 c1_11), (12, .int .i64 ((j + 1 : Nat) : Int)), (13, .int .i64 ((i : Nat) : Int)), (28, .bool false), (43, .bool true), (49, .bool false)] (fun U162 => ?_)
        have x6 := SG.blk s158 x6 (by simp)
        have c163 := (SG.belowR c152 s158 (fun kq e => by cases e))
        have rd164 := Rd.kept rd1_9 (SG.below s158)
        refine h17 _ _ ?_
        refine wp_cond_false (by kernel_rfl) ?_
        refine wp_skip ?_
        refine h16 _ _ ?_
        refine W.region_quiet [(0, false), (1, false), (2, false)] (by kernel_rfl) ?_
        refine W.mv (v := .int .i64 ((i : Nat) : Int)) (h := ?_)
        refine W.q (v := .int .i64 ((i + 1 : Nat) : Int)) (hr := (r_add (m := ((i : Nat) : Int)) (n := 1) (z := ((i + 1 : Nat) : Int)) rfl (by kernel_rfl) (by kernel_rfl) (by omega) (by omega))) (h := ?_)
        refine W.as (v := .int .i64 ((i + 1 : Nat) : Int)) (h := ?_)
        refine W.endF 56 [(0, .agg #[.int .i64 m, .slice A n c]), (1, .slice A2 n2 c2), (2, .int .i64 a), (3, .pointer (some ⟨b2, 0, none⟩)), (6, .slice none 0 0), (7, .slice none 0 0), (8, .slice A40 n41 c42), (9, .slice A43 n44 c45), (10, .slice A0_10 n0_10 c0_10), (11, .slice A1_11 n1_11 c1_11), (12, .int .i64 ((j + 1 : Nat) : Int)), (13, .int .i64 ((i + 1 : Nat) : Int)), (28, .bool false), (43, .bool true), (49, .bool false)] (fun U165 => ?_)
        exact h13 _ _ _ (by omega : (n - (i + 1)) < _) ⟨i + 1, A1_11, n1_11, c1_11, (fun iU9 => lk [(0, .agg #[.int .i64 m, .slice A n c]), (1, .slice A2 n2 c2), (2, .int .i64 a), (3, .pointer (some ⟨b2, 0, none⟩)), (6, .slice none 0 0), (7, .slice none 0 0), (8, .slice A40 n41 c42), (9, .slice A43 n44 c45), (10, .slice A0_10 n0_10 c0_10), (11, .slice A1_11 n1_11 c1_11), (12, .int .i64 ((j + 1 : Nat) : Int)), (13, .int .i64 ((i + 1 : Nat) : Int)), (28, .bool false), (43, .bool true), (49, .bool false)] iU9 (U165 iU9)), (by kernel_rfl), rfl, (by omega), (by omega), x6, ho159, (by rw [idxL_no (ne_of_not (by rw [show rb (linked ps (openQ vs true)) a (9 + (i : Int)) = true from (idxL_has (by omega : 0 ≤ (i : Int) ∧ (i : Int) < ps.length)).symm.trans q161]; rfl))]; exact ho160), nb1_11_b2, nr1_1_0, rd164, sp1_9_11, c163⟩
      · rw [q161]
        refine W.q (v := .bool true) (hr := (r_not (b := false) rfl (by kernel_rfl) rfl)) (h := ?_)
        refine W.endF 56 [(0, .agg #[.int .i64 m, .slice A n c]), (1, .slice A2 n2 c2), (2, .int .i64 a), (3, .pointer (some ⟨b2, 0, none⟩)), (6, .slice none 0 0), (7, .slice none 0 0), (8, .slice A40 n41 c42), (9, .slice A43 n44 c45), (10, .slice A0_10 n0_10 c0_10), (11, .slice A1_11 n1_11 c1_11), (12, .int .i64 ((j + 1 : Nat) : Int)), (13, .int .i64 ((i : Nat) : Int)), (28, .bool false), (43, .bool true), (49, .bool true)] (fun U166 => ?_)
        have x6 := SG.blk s158 x6 (by simp)
        have c167 := (SG.belowR c152 s158 (fun kq e => by cases e))
        have rd168 := Rd.kept rd1_9 (SG.below s158)
        refine h17 _ _ ?_
        refine wp_cond_true (by kernel_rfl) ?_
        refine W.region_plain (row := (Value.ownBlock (.slice A1_11 n1_11 c1_11))) [(0, false), (1, false), (2, true), (3, true), (4, false)] (by kernel_rfl) ?_
        have s169 := SG.self w157 (Value.ownBlock (.slice A1_11 n1_11 c1_11))
        refine W.mv (v := .slice A1_11 n1_11 c1_11) (h := ?_)
        refine W.mv (v := .int .i64 ((i : Nat) : Int)) (h := ?_)
        refine W.sn (fun b => .slice (some ⟨b, 0, none⟩) 1 1) #[.int .i64 ((i : Nat) : Int)] 3 s169 rfl (by kernel_rfl) rfl (fun _ => by kernel_rfl) (fun b170 w171 hb172 k173 x174 s175 => ?_)
        have lo176 : w.heap.size ≤ b170 := by have := ((SG.belowR c167 s169 (fun kq e => (World.ownsRow.lt ho160 kq e).1))).size; omega
        have sp177 : Sp A43 n44 (some b170) := sp_new rd168 (by have := World.grownBy.size s169; have := hb172; omega)
        have ne178 : b2 ≠ b170 := by have := blk_lt x6; have := World.grownBy.size s169; omega
        have nb179 : Nb b170 (.slice A0_10 n0_10 c0_10) := nb_hi ho159 (Nat.le_of_eq hb172)
        have nb180 : Nb b170 (.slice A1_11 n1_11 c1_11) := nb_hi ho160 (Nat.le_of_eq hb172)
        have ho181 := own_kept ho159 k173
        have ho182 := own_kept ho160 k173
        refine W.sap (e := 3) (size := 1) (base := w.heap.size) (m := 1) (v := .slice A1_11 n1_11 c1_11) (c := 1) s175 rfl rfl rfl rfl (by kernel_rfl) (by kernel_rfl) (by kernel_rfl) ho182 x174 (by kernel_rfl) (by kernel_rfl) (by omega) (by omega) (by have := ((SG.belowR c167 s175 (fun kq e => (World.ownsRow.lt ho160 kq e).1))).size; omega) (.inl rfl) (fun g183 cap184 w185 ho186 hg187 hat188 hlt189 s190 => ?_)
        have nb191 : Nb b2 (.slice (some ⟨g183, 0, none⟩) (n1_11 + 1) cap184) := nb_app nb1_11_b2 (Nat.lt_of_lt_of_le (blk_lt x6) (World.grownBy.size s175)) hat188
        have nb192 : Nb b170 (.slice (some ⟨g183, 0, none⟩) (n1_11 + 1) cap184) := nb_app nb180 (blk_lt x174) hat188
        have x174 := (hg187.block _ (blk_lt x174) nb180).trans x174
        have ho186 := own_snoc ho186
        have sp193 := sp_app (v' := .slice (some ⟨g183, 0, none⟩) (n1_11 + 1) cap184) sp1_9_11 rd168 (World.grownBy.size s175) (hat3 (v := .slice A1_11 n1_11 c1_11) hat188)
        have nr194 : NbR (.slice (some ⟨g183, 0, none⟩) (n1_11 + 1) cap184) (.slice A0_10 n0_10 c0_10) := nbr_app nr1_1_0 (fun j h => (World.ownsRow.lt ho181 j h).2) (hat3 (v := .slice A1_11 n1_11 c1_11) hat188)
        have ho195 := own_grown ho181 hg187 (NbR.symm nr1_1_0)
        refine W.as (v := .slice (some ⟨g183, 0, none⟩) (n1_11 + 1) cap184) (h := ?_)
        refine W.endF 56 [(0, .agg #[.int .i64 m, .slice A n c]), (1, .slice A2 n2 c2), (2, .int .i64 a), (3, .pointer (some ⟨b2, 0, none⟩)), (6, .slice none 0 0), (7, .slice none 0 0), (8, .slice A40 n41 c42), (9, .slice A43 n44 c45), (10, .slice A0_10 n0_10 c0_10), (11, .slice (some ⟨g183, 0, none⟩) (n1_11 + 1) cap184), (12, .int .i64 ((j + 1 : Nat) : Int)), (13, .int .i64 ((i : Nat) : Int)), (28, .bool false), (43, .bool true), (49, .bool true)] (fun U196 => ?_)
        have x6 := SG.blk s190 x6 nb1_11_b2
        have c197 := (SG.belowR c167 s190 (fun kq e => (World.ownsRow.lt ho160 kq e).1))
        have rd198 := rd_sep rd168 s190 sp1_9_11
        refine h16 _ _ ?_
        refine W.region_quiet [(0, false), (1, false), (2, false)] (by kernel_rfl) ?_
        refine W.mv (v := .int .i64 ((i : Nat) : Int)) (h := ?_)
        refine W.q (v := .int .i64 ((i + 1 : Nat) : Int)) (hr := (r_add (m := ((i : Nat) : Int)) (n := 1) (z := ((i + 1 : Nat) : Int)) rfl (by kernel_rfl) (by kernel_rfl) (by omega) (by omega))) (h := ?_)
        refine W.as (v := .int .i64 ((i + 1 : Nat) : Int)) (h := ?_)
        refine W.endF 56 [(0, .agg #[.int .i64 m, .slice A n c]), (1, .slice A2 n2 c2), (2, .int .i64 a), (3, .pointer (some ⟨b2, 0, none⟩)), (6, .slice none 0 0), (7, .slice none 0 0), (8, .slice A40 n41 c42), (9, .slice A43 n44 c45), (10, .slice A0_10 n0_10 c0_10), (11, .slice (some ⟨g183, 0, none⟩) (n1_11 + 1) cap184), (12, .int .i64 ((j + 1 : Nat) : Int)), (13, .int .i64 ((i + 1 : Nat) : Int)), (28, .bool false), (43, .bool true), (49, .bool true)] (fun U199 => ?_)
        exact h13 _ _ _ (by omega : (n - (i + 1)) < _) ⟨i + 1, (some ⟨g183, 0, none⟩), (n1_11 + 1), cap184, (fun iU9 => lk [(0, .agg #[.int .i64 m, .slice A n c]), (1, .slice A2 n2 c2), (2, .int .i64 a), (3, .pointer (some ⟨b2, 0, none⟩)), (6, .slice none 0 0), (7, .slice none 0 0), (8, .slice A40 n41 c42), (9, .slice A43 n44 c45), (10, .slice A0_10 n0_10 c0_10), (11, .slice (some ⟨g183, 0, none⟩) (n1_11 + 1) cap184), (12, .int .i64 ((j + 1 : Nat) : Int)), (13, .int .i64 ((i + 1 : Nat) : Int)), (28, .bool false), (43, .bool true), (49, .bool true)] iU9 (U199 iU9)), (by kernel_rfl), rfl, (by omega), (by omega), x6, ho195, (by rw [idxL_yes ((idxL_has (by omega : 0 ≤ (i : Int) ∧ (i : Int) < ps.length)).symm.trans q161)]; exact ho186), nb191, nr194, rd198, sp193, c197⟩
    · refine W.q (v := .bool false) (hr := (r_lss (m := ((i : Nat) : Int)) (n := ((n : Nat) : Int)) rfl (by kernel_rfl) (by kernel_rfl) (decide_eq_false q153))) (h := ?_)
      refine W.endF 56 [(0, .agg #[.int .i64 m, .slice A n c]), (1, .slice A2 n2 c2), (2, .int .i64 a), (3, .pointer (some ⟨b2, 0, none⟩)), (6, .slice none 0 0), (7, .slice none 0 0), (8, .slice A40 n41 c42), (9, .slice A43 n44 c45), (10, .slice A0_10 n0_10 c0_10), (11, .slice A1_11 n1_11 c1_11), (12, .int .i64 ((j + 1 : Nat) : Int)), (13, .int .i64 ((i : Nat) : Int)), (28, .bool false), (43, .bool false)] (fun U200 => ?_)
      refine h15 _ _ ?_
      refine wp_cond_false (by kernel_rfl) ?_
      refine wp_exit ?_
      refine h11 _ _ ?_
      refine wp_seq_k (fun K18 h18 => ?_)
      refine W.region_quiet [(0, false), (1, false), (2, false), (3, false)] (by kernel_rfl) ?_
      refine W.mv (v := .slice A0_10 n0_10 c0_10) (h := ?_)
      refine W.mv (v := .slice A1_11 n1_11 c1_11) (h := ?_)
      refine W.as (v := .slice A0_10 n0_10 c0_10) (h := ?_)
      refine W.as (v := .slice A1_11 n1_11 c1_11) (h := ?_)
      refine W.endF 56 [(0, .agg #[.int .i64 m, .slice A n c]), (1, .slice A2 n2 c2), (2, .int .i64 a), (3, .pointer (some ⟨b2, 0, none⟩)), (6, .slice A0_10 n0_10 c0_10), (7, .slice A1_11 n1_11 c1_11), (8, .slice A40 n41 c42), (9, .slice A43 n44 c45), (10, .slice A0_10 n0_10 c0_10), (11, .slice A1_11 n1_11 c1_11), (12, .int .i64 ((j + 1 : Nat) : Int)), (13, .int .i64 ((i : Nat) : Int)), (28, .bool false), (43, .bool false)] (fun U201 => ?_)
      refine h18 _ _ ?_
      refine wp_ret ?_
      try simp only [Exit.then]
      refine ret2 (v := .slice A0_10 n0_10 c0_10) (x := .slice A1_11 n1_11 c1_11) rfl (by kernel_rfl) (by kernel_rfl) ?_
      exact ⟨_, _, _, _, _, _, rfl, own_rd ho1_10, own_fm ho1_10, (by rw [show ps.length = i by omega]; exact own_rd ho1_11), own_fm ho1_11, c152⟩

end Go.Proofs.Ytnfmdkbelbppdaa
