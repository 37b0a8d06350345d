/- What is connected with an element: the reference's lists. -/
import Derived.Test.YtnfmdkbelbppdaaSegI
namespace Go.Proofs.Ytnfmdkbelbppdaa
open Go.RowKit
set_option linter.unusedVariables false
set_option linter.unusedSimpArgs false

theorem openQ_no {vs : List Vv} {only : Bool} {p : Pp} {v : Int} (h : blocked vs p.id v only = true) : openQ vs only p v = false := by unfold openQ; rw [h]; rfl
theorem openQ_yes {vs : List Vv} {only : Bool} {p : Pp} {v : Int} (h : blocked vs p.id v only = false) : openQ vs only p v = true := by unfold openQ; rw [h]; rfl

set_option maxRecDepth 100000 in
set_option maxHeartbeats 1000000 in
theorem l4Spread_false (m : Int) (A : Option Addr) (n c : Nat) (ps : List Pp) (A2 : Option Addr) (n2 c2 : Nat) (vs : List Vv) (a : Int) (A3 : Option Addr) (n3 c3 : Nat) (ys : List Int) (A4 : Option Addr) (n4 c4 : Nat) (xs : List Int) (w : World) (ha : Rd w 4 A n (pipesV ps)) (hb : Rd w 4 A2 n2 (valvesV vs)) (hn : n ≤ 1048576) (hn2 : n2 ≤ 1048576) (hp : pipesIn ps m.toNat) (hm : 1 ≤ m ∧ m ≤ 8) (hlen10 : ps.length ≤ 10) (hy : Rd w 1 A3 n3 (intsV ys)) (hfy : Fm A3 n3 c3) (hx : Rd w 1 A4 n4 (intsV xs)) (hfx : Fm A4 n4 c4) (hq0 : FndQ (linked ps (openQ vs false)) m.toNat ps.length a ys xs) :
    Calls Try.prog 112 #[.agg #[.int .i64 m, .slice A n c], .slice A2 n2 c2, .bool false, .slice A3 n3 c3, .slice A4 n4 c4] w fun e w' => ∃ A5 n5 c5 A6 n6 c6, e = .returned (.tuple #[.slice A5 n5 c5, .slice A6 n6 c6]) ∧ Rd w' 1 A5 n5 (intsV (nodesL (linked ps (openQ vs false)) m.toNat a true)) ∧ Fm A5 n5 c5 ∧ Rd w' 1 A6 n6 (intsV (idxL (linked ps (openQ vs false)) ps.length a true)) ∧ Fm A6 n6 c6 ∧ Below w.heap.size w w' := by
  have hl := rd_pipes_len ha
  have hl2 := rd_valves_len hb
  have hly := rd_ints_len hy
  have hlx := rd_ints_len hx
  have hfl0 := hq0.len
  go_enter Try.func112, Try.ntmps112
  refine wp_seq_k (fun K1 h1 => ?_)
  refine W.region_plain (row := none) [(0, true), (1, false), (2, false)] (by kernel_rfl) ?_
  have s1 := SG.self w none
  refine W.sn (fun b => .pointer (some ⟨b, 0, none⟩)) #[.int .i64 m, .slice A n c] 32 s1 rfl (by kernel_rfl) rfl (fun _ => by kernel_rfl) (fun b2 w3 hb4 k5 x6 s7 => ?_)
  have lo8 : w.heap.size ≤ b2 := by have := ((SG.belowR (Below.refl _ _) s1 (fun kq e => by cases e))).size; omega
  refine W.sq (v := .slice none 0 0) rfl (r_assign rfl (by kernel_rfl)) (by kernel_rfl) rfl rfl ?_
  refine W.sq (v := .slice none 0 0) rfl (r_assign rfl (by kernel_rfl)) (by kernel_rfl) rfl rfl ?_
  refine W.sch_end (l' := [.agg #[.int .i64 m, .slice A n c], .slice A2 n2 c2, .bool false, .slice A3 n3 c3, .slice A4 n4 c4, .pointer (some ⟨b2, 0, none⟩), undef, undef, undef, undef, .slice none 0 0, .slice none 0 0, undef, undef, undef, undef, undef, undef, undef, undef, undef, undef, undef, undef, undef, undef, undef, undef, undef, undef, undef, undef, undef, undef, undef, undef, undef, undef, undef, undef, undef, undef, undef, undef, undef, undef, undef, undef, undef, undef, undef, undef, undef, undef, undef, undef, undef, undef, undef, undef, undef, undef, undef, undef, undef]) (by kernel_rfl) ?_
  have c9 := (SG.belowR (Below.refl _ _) s7 (fun kq e => by cases e))
  refine h1 _ _ ?_
  refine wp_seq_k (fun K2 h2 => ?_)
  refine wp_seq_k (fun K3 h3 => ?_)
  refine W.region_quiet [(0, false)] (by kernel_rfl) ?_
  refine W.sq (v := .bool true) rfl (r_assign rfl (by kernel_rfl)) (by kernel_rfl) rfl rfl ?_
  refine W.sch_end (l' := [.agg #[.int .i64 m, .slice A n c], .slice A2 n2 c2, .bool false, .slice A3 n3 c3, .slice A4 n4 c4, .pointer (some ⟨b2, 0, none⟩), undef, undef, undef, undef, .slice none 0 0, .slice none 0 0, .bool true, undef, undef, undef, undef, undef, undef, undef, undef, undef, undef, undef, undef, undef, undef, undef, undef, undef, undef, undef, undef, undef, undef, undef, undef, undef, undef, undef, undef, undef, undef, undef, undef, undef, undef, undef, undef, undef, undef, undef, undef, undef, undef, undef, undef, undef, undef, undef, undef, undef, undef, undef, undef]) (by kernel_rfl) ?_
  refine h3 _ _ ?_
  refine wp_block ?_
  refine loopK (fun am0 aa0 wl0 => ∃ (ys0 : List Int) (xs0 : List Int) (mo : Bool) (A0_3 : Option Addr) (n0_3 : Nat) (c0_3 : Nat) (A0_4 : Option Addr) (n0_4 : Nat) (c0_4 : Nat) (U0 : Nat → Value), aa0 = ⟨[.agg #[.int .i64 m, .slice A n c], .slice A2 n2 c2, .bool false, .slice A0_3 n0_3 c0_3, .slice A0_4 n0_4 c0_4, .pointer (some ⟨b2, 0, none⟩), undef, undef, undef, undef, .slice none 0 0, .slice none 0 0, .bool mo, U0 13, U0 14, U0 15, U0 16, U0 17, U0 18, U0 19, U0 20, U0 21, U0 22, U0 23, U0 24, U0 25, U0 26, U0 27, U0 28, U0 29, U0 30, U0 31, U0 32, U0 33, U0 34, U0 35, U0 36, U0 37, U0 38, U0 39, U0 40, U0 41, U0 42, U0 43, U0 44, U0 45, U0 46, U0 47, U0 48, U0 49, U0 50, U0 51, U0 52, U0 53, U0 54, U0 55, U0 56, U0 57, U0 58, U0 59, U0 60, U0 61, U0 62, undef, undef].toArray, []⟩ ∧ (am0 = 2 * (18 - ys0.length - xs0.length) + mo.toNat) ∧ (FndQ (linked ps (openQ vs false)) m.toNat ps.length a ys0 xs0) ∧ (mo = false → shutE ps (openQ vs false) (inQ ys0 xs0) ps.length) ∧ (wl0.heap[b2]? = some (.cells #[.int .i64 m, .slice A n c] 32 (0, 0))) ∧ (Fm A0_3 n0_3 c0_3) ∧ (Rd wl0 1 A0_3 n0_3 (intsV ys0)) ∧ (Fm A0_4 n0_4 c0_4) ∧ (Rd wl0 1 A0_4 n0_4 (intsV xs0)) ∧ (Below w.heap.size w wl0)) (2 * (18 - ys.length - xs.length) + true.toNat) ?_ ?_
  · exact ⟨ys, xs, true, A3, n3, c3, A4, n4, c4, (fun iU9 => [.agg #[.int .i64 m, .slice A n c], .slice A2 n2 c2, .bool false, .slice A3 n3 c3, .slice A4 n4 c4, .pointer (some ⟨b2, 0, none⟩), undef, undef, undef, undef, .slice none 0 0, .slice none 0 0, .bool true, undef, undef, undef, undef, undef, undef, undef, undef, undef, undef, undef, undef, undef, undef, undef, undef, undef, undef, undef, undef, undef, undef, undef, undef, undef, undef, undef, undef, undef, undef, undef, undef, undef, undef, undef, undef, undef, undef, undef, undef, undef, undef, undef, undef, undef, undef, undef, undef, undef, undef, undef, undef].getD iU9 undef), (by kernel_rfl), rfl, hq0, (fun e => by cases e), x6, hfy, (Rd.kept hy c9), hfx, (Rd.kept hx c9), c9⟩
  rintro am0 aa0 wl0 K4 h4 ⟨ys0, xs0, mo, A0_3, n0_3, c0_3, A0_4, n0_4, c0_4, U0, rfl, rfl, hf, hsh, x6, fm0_3, rd0_3, fm0_4, rd0_4, c10⟩
  have hl0_3 := rd_ints_len rd0_3
  have hl0_4 := rd_ints_len rd0_4
  have hfl := hf.len
  refine wp_seq_k (fun K5 h5 => ?_)
  refine wp_seq_k (fun K6 h6 => ?_)
  refine W.region_quiet [(0, false)] (by kernel_rfl) ?_
  refine W.sq (v := .bool mo) rfl (r_move rfl (by kernel_rfl)) (by kernel_rfl) rfl rfl ?_
  refine W.sch_end (l' := [.agg #[.int .i64 m, .slice A n c], .slice A2 n2 c2, .bool false, .slice A0_3 n0_3 c0_3, .slice A0_4 n0_4 c0_4, .pointer (some ⟨b2, 0, none⟩), undef, undef, undef, undef, .slice none 0 0, .slice none 0 0, .bool mo, (U0 13), (U0 14), (U0 15), (U0 16), .bool mo, (U0 18), (U0 19), (U0 20), (U0 21), (U0 22), (U0 23), (U0 24), (U0 25), (U0 26), (U0 27), (U0 28), (U0 29), (U0 30), (U0 31), (U0 32), (U0 33), (U0 34), (U0 35), (U0 36), (U0 37), (U0 38), (U0 39), (U0 40), (U0 41), (U0 42), (U0 43), (U0 44), (U0 45), (U0 46), (U0 47), (U0 48), (U0 49), (U0 50), (U0 51), (U0 52), (U0 53), (U0 54), (U0 55), (U0 56), (U0 57), (U0 58), (U0 59), (U0 60), (U0 61), (U0 62), undef, undef]) (by kernel_rfl) ?_
  refine h6 _ _ ?_
  rcases Bool.eq_false_or_eq_true mo with q11 | q11
  · rw [q11]
    have qmo := q11
    refine wp_cond_true (by kernel_rfl) ?_
    refine wp_skip ?_
    refine h5 _ _ ?_
    refine wp_block ?_
    refine wp_seq_k (fun K7 h7 => ?_)
    refine W.region_quiet [(0, false)] (by kernel_rfl) ?_
    refine W.sq (v := .bool false) rfl (r_assign rfl (by kernel_rfl)) (by kernel_rfl) rfl rfl ?_
    refine W.sch_end (l' := [.agg #[.int .i64 m, .slice A n c], .slice A2 n2 c2, .bool false, .slice A0_3 n0_3 c0_3, .slice A0_4 n0_4 c0_4, .pointer (some ⟨b2, 0, none⟩), undef, undef, undef, undef, .slice none 0 0, .slice none 0 0, .bool false, (U0 13), (U0 14), (U0 15), (U0 16), .bool true, (U0 18), (U0 19), (U0 20), (U0 21), (U0 22), (U0 23), (U0 24), (U0 25), (U0 26), (U0 27), (U0 28), (U0 29), (U0 30), (U0 31), (U0 32), (U0 33), (U0 34), (U0 35), (U0 36), (U0 37), (U0 38), (U0 39), (U0 40), (U0 41), (U0 42), (U0 43), (U0 44), (U0 45), (U0 46), (U0 47), (U0 48), (U0 49), (U0 50), (U0 51), (U0 52), (U0 53), (U0 54), (U0 55), (U0 56), (U0 57), (U0 58), (U0 59), (U0 60), (U0 61), (U0 62), undef, undef]) (by kernel_rfl) ?_
    refine h7 _ _ ?_
    refine wp_seq_k (fun K8 h8 => ?_)
    refine W.region_quiet [(0, false)] (by kernel_rfl) ?_
    refine W.sq (v := .int .i64 0) rfl (r_assign rfl (by kernel_rfl)) (by kernel_rfl) rfl rfl ?_
    refine W.sch_end (l' := [.agg #[.int .i64 m, .slice A n c], .slice A2 n2 c2, .bool false, .slice A0_3 n0_3 c0_3, .slice A0_4 n0_4 c0_4, .pointer (some ⟨b2, 0, none⟩), undef, undef, undef, undef, .slice none 0 0, .slice none 0 0, .bool false, .int .i64 0, (U0 14), (U0 15), (U0 16), .bool true, (U0 18), (U0 19), (U0 20), (U0 21), (U0 22), (U0 23), (U0 24), (U0 25), (U0 26), (U0 27), (U0 28), (U0 29), (U0 30), (U0 31), (U0 32), (U0 33), (U0 34), (U0 35), (U0 36), (U0 37), (U0 38), (U0 39), (U0 40), (U0 41), (U0 42), (U0 43), (U0 44), (U0 45), (U0 46), (U0 47), (U0 48), (U0 49), (U0 50), (U0 51), (U0 52), (U0 53), (U0 54), (U0 55), (U0 56), (U0 57), (U0 58), (U0 59), (U0 60), (U0 61), (U0 62), undef, undef]) (by kernel_rfl) ?_
    refine h8 _ _ ?_
    refine wp_block ?_
    refine loopK (fun am1 aa1 wl1 => ∃ (i : Nat) (yt : List Int) (xt : List Int) (mo2 : Bool) (A1_3 : Option Addr) (n1_3 : Nat) (c1_3 : Nat) (A1_4 : Option Addr) (n1_4 : Nat) (c1_4 : Nat) (U1 : Nat → Value), aa1 = ⟨[.agg #[.int .i64 m, .slice A n c], .slice A2 n2 c2, .bool false, .slice A1_3 n1_3 c1_3, .slice A1_4 n1_4 c1_4, .pointer (some ⟨b2, 0, none⟩), undef, undef, undef, undef, .slice none 0 0, .slice none 0 0, .bool mo2, .int .i64 ((i : Nat) : Int), U1 14, U1 15, U1 16, .bool true, U1 18, U1 19, U1 20, U1 21, U1 22, U1 23, U1 24, U1 25, U1 26, U1 27, U1 28, U1 29, U1 30, U1 31, U1 32, U1 33, U1 34, U1 35, U1 36, U1 37, U1 38, U1 39, U1 40, U1 41, U1 42, U1 43, U1 44, U1 45, U1 46, U1 47, U1 48, U1 49, U1 50, U1 51, U1 52, U1 53, U1 54, U1 55, U1 56, U1 57, U1 58, U1 59, U1 60, U1 61, U1 62, undef, undef].toArray, []⟩ ∧ (am1 = n - i) ∧ (i ≤ n) ∧ (FndQ (linked ps (openQ vs false)) m.toNat ps.length a yt xt) ∧ (mo2 = true → ys0.length + xs0.length < yt.length + xt.length) ∧ (mo2 = false → yt = ys0 ∧ xt = xs0 ∧ shutE ps (openQ vs false) (inQ yt xt) i) ∧ (wl1.heap[b2]? = some (.cells #[.int .i64 m, .slice A n c] 32 (0, 0))) ∧ (Fm A1_3 n1_3 c1_3) ∧ (Rd wl1 1 A1_3 n1_3 (intsV yt)) ∧ (Fm A1_4 n1_4 c1_4) ∧ (Rd wl1 1 A1_4 n1_4 (intsV xt)) ∧ (Below w.heap.size w wl1)) (n - 0) ?_ ?_
    · exact ⟨0, ys0, xs0, false, A0_3, n0_3, c0_3, A0_4, n0_4, c0_4, (fun iU9 => [.agg #[.int .i64 m, .slice A n c], .slice A2 n2 c2, .bool false, .slice A0_3 n0_3 c0_3, .slice A0_4 n0_4 c0_4, .pointer (some ⟨b2, 0, none⟩), undef, undef, undef, undef, .slice none 0 0, .slice none 0 0, .bool false, .int .i64 0, (U0 14), (U0 15), (U0 16), .bool true, (U0 18), (U0 19), (U0 20), (U0 21), (U0 22), (U0 23), (U0 24), (U0 25), (U0 26), (U0 27), (U0 28), (U0 29), (U0 30), (U0 31), (U0 32), (U0 33), (U0 34), (U0 35), (U0 36), (U0 37), (U0 38), (U0 39), (U0 40), (U0 41), (U0 42), (U0 43), (U0 44), (U0 45), (U0 46), (U0 47), (U0 48), (U0 49), (U0 50), (U0 51), (U0 52), (U0 53), (U0 54), (U0 55), (U0 56), (U0 57), (U0 58), (U0 59), (U0 60), (U0 61), (U0 62), undef, undef].getD iU9 undef), (by kernel_rfl), rfl, (Nat.zero_le _), hf, (fun e => by cases e), (fun _ => ⟨rfl, rfl, shutE_zero _ _ _⟩), x6, fm0_3, rd0_3, fm0_4, rd0_4, c10⟩
    rintro am1 aa1 wl1 K9 h9 ⟨i, yt, xt, mo2, A1_3, n1_3, c1_3, A1_4, n1_4, c1_4, U1, rfl, rfl, hi, hf2, hmt2, hmf2, x6, fm1_3, rd1_3, fm1_4, rd1_4, c12⟩
    have hl1_3 := rd_ints_len rd1_3
    have hl1_4 := rd_ints_len rd1_4
    have hfl2 := hf2.len
    refine wp_seq_k (fun K10 h10 => ?_)
    refine wp_seq_k (fun K11 h11 => ?_)
    refine W.region_quiet [(0, false), (1, false), (2, false), (3, false), (4, false)] (by kernel_rfl) ?_
    refine W.sq (v := .int .i64 ((i : Nat) : Int)) rfl (r_move rfl (by kernel_rfl)) (by kernel_rfl) rfl rfl ?_
    refine W.sq (v := .pointer (some ⟨b2, 1, none⟩)) rfl (r_field (k := 1) rfl (by kernel_rfl) (by kernel_rfl)) (by kernel_rfl) rfl rfl ?_
    refine W.sq (v := .slice A n c) rfl (r_load rfl (by kernel_rfl) (by kernel_rfl) (eqS (blk_cell (j := 1) x6 (by kernel_rfl)))) (by kernel_rfl) rfl rfl ?_
    refine W.sq (v := .int .i64 ((n : Nat) : Int)) rfl (r_len (A := A) (n := n) (c := c) rfl (by kernel_rfl) (by kernel_rfl)) (by kernel_rfl) rfl rfl ?_
    by_cases q13 : (((i : Nat) : Int) : Int) < (((n : Nat) : Int) : Int)
    · refine W.sq (v := .bool true) rfl (r_lss (m := ((i : Nat) : Int)) (n := ((n : Nat) : Int)) rfl (by kernel_rfl) (by kernel_rfl) (decide_eq_true q13)) (by kernel_rfl) rfl rfl ?_
      refine W.sch_endU (fun U14 => [.agg #[.int .i64 m, .slice A n c], .slice A2 n2 c2, .bool false, .slice A1_3 n1_3 c1_3, .slice A1_4 n1_4 c1_4, .pointer (some ⟨b2, 0, none⟩), undef, undef, undef, undef, .slice none 0 0, .slice none 0 0, .bool mo2, .int .i64 ((i : Nat) : Int), (U1 14), (U1 15), (U1 16), .bool true, U14 18, U14 19, U14 20, U14 21, .bool true, (U1 23), (U1 24), (U1 25), (U1 26), (U1 27), (U1 28), (U1 29), (U1 30), (U1 31), (U1 32), (U1 33), (U1 34), (U1 35), (U1 36), (U1 37), (U1 38), (U1 39), (U1 40), (U1 41), (U1 42), (U1 43), (U1 44), (U1 45), (U1 46), (U1 47), (U1 48), (U1 49), (U1 50), (U1 51), (U1 52), (U1 53), (U1 54), (U1 55), (U1 56), (U1 57), (U1 58), (U1 59), (U1 60), (U1 61), (U1 62), undef, undef]) (by kernel_rfl) (fun U14 => ?_)
      refine h11 _ _ ?_
      refine wp_cond_true (by kernel_rfl) ?_
      refine wp_skip ?_
      refine h10 _ _ ?_
      refine wp_seq_k (fun K12 h12 => ?_)
      refine wp_block ?_
      refine wp_seq_k (fun K13 h13 => ?_)
      refine W.region_plain (row := none) [(0, false), (1, false), (2, false), (3, false), (4, false), (5, true), (6, true)] (by kernel_rfl) ?_
      have s15 := SG.self wl1 none
      refine W.sq (v := .pointer (some ⟨b2, 1, none⟩)) rfl (r_field (k := 1) rfl (by kernel_rfl) (by kernel_rfl)) (by kernel_rfl) rfl rfl ?_
      refine W.sq (v := .slice A n c) rfl (r_load rfl (by kernel_rfl) (by kernel_rfl) (sgS (blk_cell (j := 1) x6 (by kernel_rfl)) (by simp))) (by kernel_rfl) rfl rfl ?_
      refine W.sq (v := .int .i64 ((i : Nat) : Int)) rfl (r_move rfl (by kernel_rfl)) (by kernel_rfl) rfl rfl ?_
      obtain ⟨x16, hx17⟩ := get_of (zs := ps) (k := i) (by have := hl; omega)
      obtain ⟨b18, o19, hA20, hb21, hc22, hc23, hc24, hc25⟩ := Rd.elPipe ha hx17
      refine W.sq (v := .pointer (some ⟨b18, o19 + i * 4, none⟩)) rfl (r_idx (n := n) (c := c) (k := i) rfl (by kernel_rfl) hA20 (by kernel_rfl) (by kernel_rfl) (by have := hl; omega)) (by kernel_rfl) rfl rfl ?_
      refine W.sq (v := .agg #[.int .i64 x16.id, .int .i64 x16.fr, .int .i64 x16.to, .int .i64 x16.sz]) rfl (r_load4 rfl (by kernel_rfl) (by kernel_rfl) (by kernel_rfl) (sgS (later c12 hc22) (by simp)) (sgS (later c12 hc23) (by simp)) (sgS (later c12 hc24) (by simp)) (sgS (later c12 hc25) (by simp))) (by kernel_rfl) rfl rfl ?_
      refine W.sn (fun b => .pointer (some ⟨b, 0, none⟩)) #[.int .i64 0, .int .i64 0, .int .i64 0, .int .i64 0] 72 s15 rfl (by kernel_rfl) rfl (fun _ => by kernel_rfl) (fun b26 w27 hb28 k29 x30 s31 => ?_)
      have lo32 : w.heap.size ≤ b26 := by have := ((SG.belowR c12 s15 (fun kq e => by cases e))).size; omega
      have sp33 : Sp A1_3 n1_3 (some b26) := sp_new rd1_3 (by have := World.grownBy.size s15; have := hb28; omega)
      have sp34 : Sp A1_4 n1_4 (some b26) := sp_new rd1_4 (by have := World.grownBy.size s15; have := hb28; omega)
      have ne35 : b2 ≠ b26 := by have := blk_lt x6; have := World.grownBy.size s15; omega
      refine W.ss (v := .agg #[.int .i64 x16.id, .int .i64 x16.fr, .int .i64 x16.to, .int .i64 x16.sz]) (j := 0) (news := [.int .i64 x16.id, .int .i64 x16.fr, .int .i64 x16.to, .int .i64 x16.sz]) (cs' := #[.int .i64 x16.id, .int .i64 x16.fr, .int .i64 x16.to, .int .i64 x16.sz]) s31 rfl (by kernel_rfl) rfl rfl (by kernel_rfl) (by kernel_rfl) x30 (by kernel_rfl) (by kernel_rfl) (by simp) (by kernel_rfl) (by kernel_rfl) (.inr (by have := World.grownBy.size s15; have := hb28; omega)) (fun w36 g37 x38 s39 => ?_)
      refine W.sch_endU (fun U40 => [.agg #[.int .i64 m, .slice A n c], .slice A2 n2 c2, .bool false, .slice A1_3 n1_3 c1_3, .slice A1_4 n1_4 c1_4, .pointer (some ⟨b2, 0, none⟩), undef, undef, undef, undef, .slice none 0 0, .slice none 0 0, .bool mo2, .int .i64 ((i : Nat) : Int), .pointer (some ⟨b26, 0, none⟩), (U1 15), (U1 16), .bool true, (U14 18), (U14 19), (U14 20), (U14 21), .bool true, (U1 23), (U1 24), U40 25, U40 26, U40 27, U40 28, U40 29, (U1 30), (U1 31), (U1 32), (U1 33), (U1 34), (U1 35), (U1 36), (U1 37), (U1 38), (U1 39), (U1 40), (U1 41), (U1 42), (U1 43), (U1 44), (U1 45), (U1 46), (U1 47), (U1 48), (U1 49), (U1 50), (U1 51), (U1 52), (U1 53), (U1 54), (U1 55), (U1 56), (U1 57), (U1 58), (U1 59), (U1 60), (U1 61), (U1 62), undef, undef]) (by kernel_rfl) (fun U40 => ?_)
      have x6 := SG.blk s39 x6 (by simp)
      have c41 := (SG.belowR c12 s39 (fun kq e => by cases e))
      have rd42 := Rd.kept rd1_3 (SG.below s39)
      have rd43 := Rd.kept rd1_4 (SG.below s39)
      refine h13 _ _ ?_
      refine wp_seq_k (fun K14 h14 => ?_)
      refine W.region_quiet [(0, false)] (by kernel_rfl) ?_
      refine W.sq (v := .int .i64 0) rfl (r_assign rfl (by kernel_rfl)) (by kernel_rfl) rfl rfl ?_
      refine W.sch_end (l' := [.agg #[.int .i64 m, .slice A n c], .slice A2 n2 c2, .bool false, .slice A1_3 n1_3 c1_3, .slice A1_4 n1_4 c1_4, .pointer (some ⟨b2, 0, none⟩), undef, undef, undef, undef, .slice none 0 0, .slice none 0 0, .bool mo2, .int .i64 ((i : Nat) : Int), .pointer (some ⟨b26, 0, none⟩), .int .i64 0, (U1 16), .bool true, (U14 18), (U14 19), (U14 20), (U14 21), .bool true, (U1 23), (U1 24), (U40 25), (U40 26), (U40 27), (U40 28), (U40 29), (U1 30), (U1 31), (U1 32), (U1 33), (U1 34), (U1 35), (U1 36), (U1 37), (U1 38), (U1 39), (U1 40), (U1 41), (U1 42), (U1 43), (U1 44), (U1 45), (U1 46), (U1 47), (U1 48), (U1 49), (U1 50), (U1 51), (U1 52), (U1 53), (U1 54), (U1 55), (U1 56), (U1 57), (U1 58), (U1 59), (U1 60), (U1 61), (U1 62), undef, undef]) (by kernel_rfl) ?_
      refine h14 _ _ ?_
      refine wp_block ?_
      refine loopK (fun am2 aa2 wl2 => ∃ (k : Nat) (yu : List Int) (xu : List Int) (mo3 : Bool) (A2_3 : Option Addr) (n2_3 : Nat) (c2_3 : Nat) (A2_4 : Option Addr) (n2_4 : Nat) (c2_4 : Nat) (U2 : Nat → Value), aa2 = ⟨[.agg #[.int .i64 m, .slice A n c], .slice A2 n2 c2, .bool false, .slice A2_3 n2_3 c2_3, .slice A2_4 n2_4 c2_4, .pointer (some ⟨b2, 0, none⟩), undef, undef, undef, undef, .slice none 0 0, .slice none 0 0, .bool mo3, .int .i64 ((i : Nat) : Int), .pointer (some ⟨b26, 0, none⟩), .int .i64 ((k : Nat) : Int), U2 16, .bool true, (U14 18), (U14 19), (U14 20), (U14 21), .bool true, (U1 23), (U1 24), (U40 25), (U40 26), (U40 27), (U40 28), (U40 29), U2 30, U2 31, U2 32, U2 33, U2 34, U2 35, U2 36, U2 37, U2 38, U2 39, U2 40, U2 41, U2 42, U2 43, U2 44, U2 45, U2 46, U2 47, U2 48, U2 49, U2 50, U2 51, U2 52, U2 53, U2 54, U2 55, U2 56, U2 57, U2 58, U2 59, U2 60, U2 61, U2 62, undef, undef].toArray, []⟩ ∧ (am2 = 2 - k) ∧ (k ≤ 2) ∧ (FndQ (linked ps (openQ vs false)) m.toNat ps.length a yu xu) ∧ (mo3 = true → ys0.length + xs0.length < yu.length + xu.length) ∧ (mo3 = false → yu = ys0 ∧ xu = xs0 ∧ shutE ps (openQ vs false) (inQ yu xu) i ∧ (1 ≤ k → okP (openQ vs false) (inQ yu xu) i x16 x16.fr) ∧ (2 ≤ k → okP (openQ vs false) (inQ yu xu) i x16 x16.to)) ∧ (wl2.heap[b2]? = some (.cells #[.int .i64 m, .slice A n c] 32 (0, 0))) ∧ (wl2.heap[b26]? = some (.cells #[.int .i64 x16.id, .int .i64 x16.fr, .int .i64 x16.to, .int .i64 x16.sz] 72 (0, 0))) ∧ (Fm A2_3 n2_3 c2_3) ∧ (Rd wl2 1 A2_3 n2_3 (intsV yu)) ∧ (Fm A2_4 n2_4 c2_4) ∧ (Rd wl2 1 A2_4 n2_4 (intsV xu)) ∧ (Below w.heap.size w wl2)) (2 - 0) ?_ ?_
      · exact ⟨0, yt, xt, mo2, A1_3, n1_3, c1_3, A1_4, n1_4, c1_4, (fun iU9 => [.agg #[.int .i64 m, .slice A n c], .slice A2 n2 c2, .bool false, .slice A1_3 n1_3 c1_3, .slice A1_4 n1_4 c1_4, .pointer (some ⟨b2, 0, none⟩), undef, undef, undef, undef, .slice none 0 0, .slice none 0 0, .bool mo2, .int .i64 ((i : Nat) : Int), .pointer (some ⟨b26, 0, none⟩), .int .i64 0, (U1 16), .bool true, (U14 18), (U14 19), (U14 20), (U14 21), .bool true, (U1 23), (U1 24), (U40 25), (U40 26), (U40 27), (U40 28), (U40 29), (U1 30), (U1 31), (U1 32), (U1 33), (U1 34), (U1 35), (U1 36), (U1 37), (U1 38), (U1 39), (U1 40), (U1 41), (U1 42), (U1 43), (U1 44), (U1 45), (U1 46), (U1 47), (U1 48), (U1 49), (U1 50), (U1 51), (U1 52), (U1 53), (U1 54), (U1 55), (U1 56), (U1 57), (U1 58), (U1 59), (U1 60), (U1 61), (U1 62), undef, undef].getD iU9 undef), (by kernel_rfl), rfl, (Nat.zero_le _), hf2, hmt2, (fun e => ⟨(hmf2 e).1, (hmf2 e).2.1, (hmf2 e).2.2, fun h => absurd h (by omega), fun h => absurd h (by omega)⟩), x6, x38, fm1_3, rd42, fm1_4, rd43, c41⟩
      rintro am2 aa2 wl2 K15 h15 ⟨k, yu, xu, mo3, A2_3, n2_3, c2_3, A2_4, n2_4, c2_4, U2, rfl, rfl, hk, hf3, hmt3, hmf3, x6, x38, fm2_3, rd2_3, fm2_4, rd2_4, c44⟩
      have hl2_3 := rd_ints_len rd2_3
      have hl2_4 := rd_ints_len rd2_4
      have hfl3 := hf3.len
      refine wp_seq_k (fun K16 h16 => ?_)
      refine wp_seq_k (fun K17 h17 => ?_)
      refine W.region_quiet [(0, false), (1, false)] (by kernel_rfl) ?_
      refine W.sq (v := .int .i64 ((k : Nat) : Int)) rfl (r_move rfl (by kernel_rfl)) (by kernel_rfl) rfl rfl ?_
      by_cases q45 : (((k : Nat) : Int) : Int) < (2 : Int)
      · refine W.sq (v := .bool true) rfl (r_lss (m := ((k : Nat) : Int)) (n := 2) rfl (by kernel_rfl) (by kernel_rfl) (decide_eq_true q45)) (by kernel_rfl) rfl rfl ?_
        refine W.sch_endU (fun U46 => [.agg #[.int .i64 m, .slice A n c], .slice A2 n2 c2, .bool false, .slice A2_3 n2_3 c2_3, .slice A2_4 n2_4 c2_4, .pointer (some ⟨b2, 0, none⟩), undef, undef, undef, undef, .slice none 0 0, .slice none 0 0, .bool mo3, .int .i64 ((i : Nat) : Int), .pointer (some ⟨b26, 0, none⟩), .int .i64 ((k : Nat) : Int), (U2 16), .bool true, (U14 18), (U14 19), (U14 20), (U14 21), .bool true, (U1 23), (U1 24), (U40 25), (U40 26), (U40 27), (U40 28), (U40 29), U46 30, .bool true, (U2 32), (U2 33), (U2 34), (U2 35), (U2 36), (U2 37), (U2 38), (U2 39), (U2 40), (U2 41), (U2 42), (U2 43), (U2 44), (U2 45), (U2 46), (U2 47), (U2 48), (U2 49), (U2 50), (U2 51), (U2 52), (U2 53), (U2 54), (U2 55), (U2 56), (U2 57), (U2 58), (U2 59), (U2 60), (U2 61), (U2 62), undef, undef]) (by kernel_rfl) (fun U46 => ?_)
        refine h17 _ _ ?_
        refine wp_cond_true (by kernel_rfl) ?_
        refine wp_skip ?_
        refine h16 _ _ ?_
        refine wp_seq_k (fun K18 h18 => ?_)
        refine wp_block ?_
        refine wp_seq_k (fun K19 h19 => ?_)
        refine W.region_plain (row := none) [(0, false), (1, false), (2, false), (3, false), (4, true), (5, false), (6, false), (7, true), (8, false)] (by kernel_rfl) ?_
        have s47 := SG.self wl2 none
        refine W.sq (v := .pointer (some ⟨b26, 1, none⟩)) rfl (r_field (k := 1) rfl (by kernel_rfl) (by kernel_rfl)) (by kernel_rfl) rfl rfl ?_
        refine W.sq (v := .int .i64 x16.fr) rfl (r_load rfl (by kernel_rfl) (by kernel_rfl) (sgS (blk_cell (j := 1) x38 (by kernel_rfl)) (by simp))) (by kernel_rfl) rfl rfl ?_
        refine W.sq (v := .pointer (some ⟨b26, 2, none⟩)) rfl (r_field (k := 2) rfl (by kernel_rfl) (by kernel_rfl)) (by kernel_rfl) rfl rfl ?_
        refine W.sq (v := .int .i64 x16.to) rfl (r_load rfl (by kernel_rfl) (by kernel_rfl) (sgS (blk_cell (j := 2) x38 (by kernel_rfl)) (by simp))) (by kernel_rfl) rfl rfl ?_
        refine W.sn (fun b => .slice (some ⟨b, 0, none⟩) 2 2) #[.int .i64 x16.fr, .int .i64 x16.to] 3 s47 rfl (by kernel_rfl) rfl (fun _ => by kernel_rfl) (fun b48 w49 hb50 k51 x52 s53 => ?_)
        have lo54 : w.heap.size ≤ b48 := by have := ((SG.belowR c44 s47 (fun kq e => by cases e))).size; omega
        have sp55 : Sp A2_3 n2_3 (some b48) := sp_new rd2_3 (by have := World.grownBy.size s47; have := hb50; omega)
        have sp56 : Sp A2_4 n2_4 (some b48) := sp_new rd2_4 (by have := World.grownBy.size s47; have := hb50; omega)
        have ne57 : b2 ≠ b48 := by have := blk_lt x6; have := World.grownBy.size s47; omega
        have ne58 : b26 ≠ b48 := by have := blk_lt x38; have := World.grownBy.size s47; omega
        refine W.sq (v := .int .i64 ((k : Nat) : Int)) rfl (r_move rfl (by kernel_rfl)) (by kernel_rfl) rfl rfl ?_
        have ho59 := own_blk (base := w.heap.size) (size := 1) (n := 2) x52 lo54 rfl (by omega)
        replace ho59 : World.ownsRow _ _ _ _ _ _ (intsV [x16.fr, x16.to]) := ho59
        have sp60 := sp_own (n' := 2) (c := 2) sp55
        have sp61 := sp_own (n' := 2) (c := 2) sp56
        have nb62 : Nb b2 (.slice (some ⟨b48, 0, none⟩) 2 2) := nb_new (by have := ne57; omega)
        have nb63 : Nb b26 (.slice (some ⟨b48, 0, none⟩) 2 2) := nb_new (by have := ne58; omega)
        have rd65 := own_rd ho59
        have hl66 := rd_ints_len rd65
        obtain ⟨x67, hx68⟩ := get_of (zs := [x16.fr, x16.to]) (k := k) (by have := hl66; omega)
        have hy2 := two_of hx68
        have hpx := hp x16 (List.mem_of_getElem? hx17)
        obtain ⟨b69, o70, hA71, hb72, hc73⟩ := Rd.elInt rd65 hx68
        refine W.sq (v := .pointer (some ⟨b69, o70 + k, none⟩)) rfl (r_idx1 (n := 2) (c := 2) (k := k) rfl (by kernel_rfl) hA71 (by kernel_rfl) (by kernel_rfl) (by have := hl66; omega)) (by kernel_rfl) rfl rfl ?_
        refine W.slq (v := .int .i64 x67) s53 rfl (r_load rfl (by kernel_rfl) (by kernel_rfl) (eqS hc73)) (by kernel_rfl) rfl ?_
        refine W.sq (v := .int .i64 x67) rfl (r_assign rfl (by kernel_rfl)) (by kernel_rfl) rfl rfl ?_
        refine W.sch_endU (fun U74 => [.agg #[.int .i64 m, .slice A n c], .slice A2 n2 c2, .bool false, .slice A2_3 n2_3 c2_3, .slice A2_4 n2_4 c2_4, .pointer (some ⟨b2, 0, none⟩), undef, undef, undef, undef, .slice none 0 0, .slice none 0 0, .bool mo3, .int .i64 ((i : Nat) : Int), .pointer (some ⟨b26, 0, none⟩), .int .i64 ((k : Nat) : Int), .int .i64 x67, .bool true, (U14 18), (U14 19), (U14 20), (U14 21), .bool true, (U1 23), (U1 24), (U40 25), (U40 26), (U40 27), (U40 28), (U40 29), (U46 30), .bool true, (U2 32), (U2 33), U74 34, U74 35, U74 36, U74 37, U74 38, U74 39, U74 40, U74 41, (U2 42), (U2 43), (U2 44), (U2 45), (U2 46), (U2 47), (U2 48), (U2 49), (U2 50), (U2 51), (U2 52), (U2 53), (U2 54), (U2 55), (U2 56), (U2 57), (U2 58), (U2 59), (U2 60), (U2 61), (U2 62), undef, undef]) (by kernel_rfl) (fun U74 => ?_)
        have x6 := SG.blk s53 x6 (by simp)
        have x38 := SG.blk s53 x38 (by simp)
        have c75 := (SG.belowR c44 s53 (fun kq e => by cases e))
        have rd76 := Rd.kept rd2_3 (SG.below s53)
        have rd77 := Rd.kept rd2_4 (SG.below s53)
        refine h19 _ _ ?_
        refine wp_seq_k (fun K20 h20 => ?_)
        refine wp_seq_k (fun K21 h21 => ?_)
        refine W.region_plain (row := none) [(0, false), (1, false), (2, false), (3, false), (4, false), (5, true), (6, false), (7, false), (8, false), (9, true), (10, false), (11, false), (12, true), (13, false), (14, false)] (by kernel_rfl) ?_
        have s78 := SG.self w49 none
        refine W.sq (v := .slice A2 n2 c2) rfl (r_move rfl (by kernel_rfl)) (by kernel_rfl) rfl rfl ?_
        refine W.sq (v := .pointer (some ⟨b26, 0, none⟩)) rfl (r_field0 rfl (by kernel_rfl) (by kernel_rfl)) (by kernel_rfl) rfl rfl ?_
        refine W.sq (v := .int .i64 x16.id) rfl (r_load rfl (by kernel_rfl) (by kernel_rfl) (sgS (blk_cell (j := 0) x38 (by kernel_rfl)) (by simp))) (by kernel_rfl) rfl rfl ?_
        refine W.sq (v := .int .i64 x67) rfl (r_move rfl (by kernel_rfl)) (by kernel_rfl) rfl rfl ?_
        refine W.sq (v := .bool false) rfl (r_move rfl (by kernel_rfl)) (by kernel_rfl) rfl rfl ?_
        refine W.sc (vs := [.slice A2 n2 c2, .int .i64 x16.id, .int .i64 x67, .bool false]) rfl rfl (by kernel_rfl) (by kernel_rfl) (by kernel_rfl) rfl (l4Blocked_false A2 n2 c2 vs x16.id x67 _ (Rd.kept hb (SG.belowR c75 s78 (fun kq e => by cases e))) (by omega)) ?_
        rintro e w80 ⟨rfl, b79⟩
        have s81 := SG.of_below s78 b79
        refine ⟨_, rfl, s81, ?_⟩
        rcases Bool.eq_false_or_eq_true (blocked vs x16.id x67 false) with q82 | q82
        · rw [q82]
          refine W.sq (v := .bool true) rfl (r_move rfl (by kernel_rfl)) (by kernel_rfl) rfl rfl ?_
          refine W.sk s81 rfl (by kernel_rfl) rfl rfl ?_
          refine W.sk s81 rfl (by kernel_rfl) rfl rfl ?_
          refine W.sk s81 rfl (by kernel_rfl) rfl rfl ?_
          refine W.sk s81 rfl (by kernel_rfl) rfl rfl ?_
          refine W.sk s81 rfl (by kernel_rfl) rfl rfl ?_
          refine W.sk s81 rfl (by kernel_rfl) rfl rfl ?_
          refine W.sk s81 rfl (by kernel_rfl) rfl rfl ?_
          refine W.sq (v := .bool true) rfl (r_pick (b := true) rfl (by kernel_rfl) (by kernel_rfl)) (by kernel_rfl) rfl rfl ?_
          refine W.sch_endU (fun U83 => [.agg #[.int .i64 m, .slice A n c], .slice A2 n2 c2, .bool false, .slice A2_3 n2_3 c2_3, .slice A2_4 n2_4 c2_4, .pointer (some ⟨b2, 0, none⟩), undef, undef, undef, undef, .slice none 0 0, .slice none 0 0, .bool mo3, .int .i64 ((i : Nat) : Int), .pointer (some ⟨b26, 0, none⟩), .int .i64 ((k : Nat) : Int), .int .i64 x67, .bool true, (U14 18), (U14 19), (U14 20), (U14 21), .bool true, (U1 23), (U1 24), (U40 25), (U40 26), (U40 27), (U40 28), (U40 29), (U46 30), .bool true, (U2 32), (U2 33), (U74 34), (U74 35), (U74 36), (U74 37), (U74 38), (U74 39), (U74 40), (U74 41), U83 42, U83 43, U83 44, U83 45, U83 46, U83 47, U83 48, undef, undef, undef, undef, undef, undef, undef, .bool true, (U2 57), (U2 58), (U2 59), (U2 60), (U2 61), (U2 62), undef, undef]) (by kernel_rfl) (fun U83 => ?_)
          have x6 := SG.blk s81 x6 (by simp)
          have x38 := SG.blk s81 x38 (by simp)
          have c84 := (SG.belowR c75 s81 (fun kq e => by cases e))
          have rd85 := Rd.kept rd76 (SG.below s81)
          have rd86 := Rd.kept rd77 (SG.below s81)
          have rd87 := Rd.kept rd65 (SG.below s81)
          refine h21 _ _ ?_
          refine wp_cond_true (by kernel_rfl) ?_
          refine wp_exit ?_
          refine h18 _ _ ?_
          refine W.region_quiet [(0, false), (1, false), (2, false)] (by kernel_rfl) ?_
          refine W.sq (v := .int .i64 ((k : Nat) : Int)) rfl (r_move rfl (by kernel_rfl)) (by kernel_rfl) rfl rfl ?_
          refine W.sq (v := .int .i64 ((k + 1 : Nat) : Int)) rfl (r_add (m := ((k : Nat) : Int)) (n := 1) (z := ((k + 1 : Nat) : Int)) rfl (by kernel_rfl) (by kernel_rfl) (by omega) (by omega)) (by kernel_rfl) rfl rfl ?_
          refine W.sq (v := .int .i64 ((k + 1 : Nat) : Int)) rfl (r_assign rfl (by kernel_rfl)) (by kernel_rfl) rfl rfl ?_
          refine W.sch_endU (fun U88 => [.agg #[.int .i64 m, .slice A n c], .slice A2 n2 c2, .bool false, .slice A2_3 n2_3 c2_3, .slice A2_4 n2_4 c2_4, .pointer (some ⟨b2, 0, none⟩), undef, undef, undef, undef, .slice none 0 0, .slice none 0 0, .bool mo3, .int .i64 ((i : Nat) : Int), .pointer (some ⟨b26, 0, none⟩), .int .i64 ((k + 1 : Nat) : Int), .int .i64 x67, .bool true, (U14 18), (U14 19), (U14 20), (U14 21), .bool true, (U1 23), (U1 24), (U40 25), (U40 26), (U40 27), (U40 28), (U40 29), (U46 30), .bool true, U88 32, U88 33, (U74 34), (U74 35), (U74 36), (U74 37), (U74 38), (U74 39), (U74 40), (U74 41), (U83 42), (U83 43), (U83 44), (U83 45), (U83 46), (U83 47), (U83 48), undef, undef, undef, undef, undef, undef, undef, .bool true, (U2 57), (U2 58), (U2 59), (U2 60), (U2 61), (U2 62), undef, undef]) (by kernel_rfl) (fun U88 => ?_)
          exact h15 _ _ _ (by omega : (2 - (k + 1)) < _) ⟨k + 1, yu, xu, mo3, A2_3, n2_3, c2_3, A2_4, n2_4, c2_4, (fun iU9 => [.agg #[.int .i64 m, .slice A n c], .slice A2 n2 c2, .bool false, .slice A2_3 n2_3 c2_3, .slice A2_4 n2_4 c2_4, .pointer (some ⟨b2, 0, none⟩), undef, undef, undef, undef, .slice none 0 0, .slice none 0 0, .bool mo3, .int .i64 ((i : Nat) : Int), .pointer (some ⟨b26, 0, none⟩), .int .i64 ((k + 1 : Nat) : Int), .int .i64 x67, .bool true, (U14 18), (U14 19), (U14 20), (U14 21), .bool true, (U1 23), (U1 24), (U40 25), (U40 26), (U40 27), (U40 28), (U40 29), (U46 30), .bool true, (U88 32), (U88 33), (U74 34), (U74 35), (U74 36), (U74 37), (U74 38), (U74 39), (U74 40), (U74 41), (U83 42), (U83 43), (U83 44), (U83 45), (U83 46), (U83 47), (U83 48), undef, undef, undef, undef, undef, undef, undef, .bool true, (U2 57), (U2 58), (U2 59), (U2 60), (U2 61), (U2 62), undef, undef].getD iU9 undef), (by kernel_rfl), rfl, (by omega), hf3, hmt3, (fun e => ⟨(hmf3 e).1, (hmf3 e).2.1, (hmf3 e).2.2.1, two_next hy2 (hmf3 e).2.2.2.1 (okP_shut (openQ_no q82))⟩), x6, x38, fm2_3, rd85, fm2_4, rd86, c84⟩
        · rw [q82]
          refine W.sq (v := .bool false) rfl (r_move rfl (by kernel_rfl)) (by kernel_rfl) rfl rfl ?_
          refine W.sq (v := .slice A2_3 n2_3 c2_3) rfl (r_move rfl (by kernel_rfl)) (by kernel_rfl) rfl rfl ?_
          refine W.sq (v := .int .i64 x67) rfl (r_move rfl (by kernel_rfl)) (by kernel_rfl) rfl rfl ?_
          refine W.sc (vs := [.slice A2_3 n2_3 c2_3, .int .i64 x67]) rfl rfl (by kernel_rfl) (by kernel_rfl) (by kernel_rfl) rfl (l1Has_any A2_3 n2_3 c2_3 yu x67 _ (Rd.kept rd76 (SG.below s81)) (by omega)) ?_
          rintro e w90 ⟨rfl, b89⟩
          have s91 := SG.of_below s81 b89
          refine ⟨_, rfl, s91, ?_⟩
          refine W.sq (v := .slice A2_4 n2_4 c2_4) rfl (r_move rfl (by kernel_rfl)) (by kernel_rfl) rfl rfl ?_
          refine W.sq (v := .int .i64 ((i : Nat) : Int)) rfl (r_move rfl (by kernel_rfl)) (by kernel_rfl) rfl rfl ?_
          refine W.sc (vs := [.slice A2_4 n2_4 c2_4, .int .i64 ((i : Nat) : Int)]) rfl rfl (by kernel_rfl) (by kernel_rfl) (by kernel_rfl) rfl (l1Has_any A2_4 n2_4 c2_4 xu ((i : Nat) : Int) _ (Rd.kept rd77 (SG.below s91)) (by omega)) ?_
          rintro e w93 ⟨rfl, b92⟩
          have s94 := SG.of_below s91 b92
          refine ⟨_, rfl, s94, ?_⟩
          by_cases q95 : (yu.contains x67) = (xu.contains ((i : Nat) : Int))
          · refine W.sq (v := .bool true) rfl (r_eqlB (m := (yu.contains x67)) (n := (xu.contains ((i : Nat) : Int))) rfl (by kernel_rfl) (by kernel_rfl) (by kernel_rfl) (beq_iff_eq.2 q95)) (by kernel_rfl) rfl rfl ?_
            refine W.sq (v := .bool true) rfl (r_pick (b := false) rfl (by kernel_rfl) (by kernel_rfl)) (by kernel_rfl) rfl rfl ?_
            refine W.sch_endU (fun U96 => [.agg #[.int .i64 m, .slice A n c], .slice A2 n2 c2, .bool false, .slice A2_3 n2_3 c2_3, .slice A2_4 n2_4 c2_4, .pointer (some ⟨b2, 0, none⟩), undef, undef, undef, undef, .slice none 0 0, .slice none 0 0, .bool mo3, .int .i64 ((i : Nat) : Int), .pointer (some ⟨b26, 0, none⟩), .int .i64 ((k : Nat) : Int), .int .i64 x67, .bool true, (U14 18), (U14 19), (U14 20), (U14 21), .bool true, (U1 23), (U1 24), (U40 25), (U40 26), (U40 27), (U40 28), (U40 29), (U46 30), .bool true, (U2 32), (U2 33), (U74 34), (U74 35), (U74 36), (U74 37), (U74 38), (U74 39), (U74 40), (U74 41), U96 42, U96 43, U96 44, U96 45, U96 46, U96 47, U96 48, U96 49, U96 50, U96 51, U96 52, U96 53, U96 54, U96 55, .bool true, (U2 57), (U2 58), (U2 59), (U2 60), (U2 61), (U2 62), undef, undef]) (by kernel_rfl) (fun U96 => ?_)
            have x6 := SG.blk s94 x6 (by simp)
            have x38 := SG.blk s94 x38 (by simp)
            have c97 := (SG.belowR c75 s94 (fun kq e => by cases e))
            have rd98 := Rd.kept rd76 (SG.below s94)
            have rd99 := Rd.kept rd77 (SG.below s94)
            have rd100 := Rd.kept rd65 (SG.below s94)
            refine h21 _ _ ?_
            refine wp_cond_true (by kernel_rfl) ?_
            refine wp_exit ?_
            refine h18 _ _ ?_
            refine W.region_quiet [(0, false), (1, false), (2, false)] (by kernel_rfl) ?_
            refine W.sq (v := .int .i64 ((k : Nat) : Int)) rfl (r_move rfl (by kernel_rfl)) (by kernel_rfl) rfl rfl ?_
            refine W.sq (v := .int .i64 ((k + 1 : Nat) : Int)) rfl (r_add (m := ((k : Nat) : Int)) (n := 1) (z := ((k + 1 : Nat) : Int)) rfl (by kernel_rfl) (by kernel_rfl) (by omega) (by omega)) (by kernel_rfl) rfl rfl ?_
            refine W.sq (v := .int .i64 ((k + 1 : Nat) : Int)) rfl (r_assign rfl (by kernel_rfl)) (by kernel_rfl) rfl rfl ?_
            refine W.sch_endU (fun U101 => [.agg #[.int .i64 m, .slice A n c], .slice A2 n2 c2, .bool false, .slice A2_3 n2_3 c2_3, .slice A2_4 n2_4 c2_4, .pointer (some ⟨b2, 0, none⟩), undef, undef, undef, undef, .slice none 0 0, .slice none 0 0, .bool mo3, .int .i64 ((i : Nat) : Int), .pointer (some ⟨b26, 0, none⟩), .int .i64 ((k + 1 : Nat) : Int), .int .i64 x67, .bool true, (U14 18), (U14 19), (U14 20), (U14 21), .bool true, (U1 23), (U1 24), (U40 25), (U40 26), (U40 27), (U40 28), (U40 29), (U46 30), .bool true, U101 32, U101 33, (U74 34), (U74 35), (U74 36), (U74 37), (U74 38), (U74 39), (U74 40), (U74 41), (U96 42), (U96 43), (U96 44), (U96 45), (U96 46), (U96 47), (U96 48), (U96 49), (U96 50), (U96 51), (U96 52), (U96 53), (U96 54), (U96 55), .bool true, (U2 57), (U2 58), (U2 59), (U2 60), (U2 61), (U2 62), undef, undef]) (by kernel_rfl) (fun U101 => ?_)
            exact h15 _ _ _ (by omega : (2 - (k + 1)) < _) ⟨k + 1, yu, xu, mo3, A2_3, n2_3, c2_3, A2_4, n2_4, c2_4, (fun iU9 => [.agg #[.int .i64 m, .slice A n c], .slice A2 n2 c2, .bool false, .slice A2_3 n2_3 c2_3, .slice A2_4 n2_4 c2_4, .pointer (some ⟨b2, 0, none⟩), undef, undef, undef, undef, .slice none 0 0, .slice none 0 0, .bool mo3, .int .i64 ((i : Nat) : Int), .pointer (some ⟨b26, 0, none⟩), .int .i64 ((k + 1 : Nat) : Int), .int .i64 x67, .bool true, (U14 18), (U14 19), (U14 20), (U14 21), .bool true, (U1 23), (U1 24), (U40 25), (U40 26), (U40 27), (U40 28), (U40 29), (U46 30), .bool true, (U101 32), (U101 33), (U74 34), (U74 35), (U74 36), (U74 37), (U74 38), (U74 39), (U74 40), (U74 41), (U96 42), (U96 43), (U96 44), (U96 45), (U96 46), (U96 47), (U96 48), (U96 49), (U96 50), (U96 51), (U96 52), (U96 53), (U96 54), (U96 55), .bool true, (U2 57), (U2 58), (U2 59), (U2 60), (U2 61), (U2 62), undef, undef].getD iU9 undef), (by kernel_rfl), rfl, (by omega), hf3, hmt3, (fun e => ⟨(hmf3 e).1, (hmf3 e).2.1, (hmf3 e).2.2.1, two_next hy2 (hmf3 e).2.2.2.1 (okQ_same (m := m.toNat) (by omega) hf3.b1 (by omega) q95)⟩), x6, x38, fm2_3, rd98, fm2_4, rd99, c97⟩
          · refine W.sq (v := .bool false) rfl (r_eqlB (m := (yu.contains x67)) (n := (xu.contains ((i : Nat) : Int))) rfl (by kernel_rfl) (by kernel_rfl) (by kernel_rfl) (beq_eq_false_iff_ne.2 q95)) (by kernel_rfl) rfl rfl ?_
            refine W.sq (v := .bool false) rfl (r_pick (b := false) rfl (by kernel_rfl) (by kernel_rfl)) (by kernel_rfl) rfl rfl ?_
            refine W.sch_endU (fun U102 => [.agg #[.int .i64 m, .slice A n c], .slice A2 n2 c2, .bool false, .slice A2_3 n2_3 c2_3, .slice A2_4 n2_4 c2_4, .pointer (some ⟨b2, 0, none⟩), undef, undef, undef, undef, .slice none 0 0, .slice none 0 0, .bool mo3, .int .i64 ((i : Nat) : Int), .pointer (some ⟨b26, 0, none⟩), .int .i64 ((k : Nat) : Int), .int .i64 x67, .bool true, (U14 18), (U14 19), (U14 20), (U14 21), .bool true, (U1 23), (U1 24), (U40 25), (U40 26), (U40 27), (U40 28), (U40 29), (U46 30), .bool true, (U2 32), (U2 33), (U74 34), (U74 35), (U74 36), (U74 37), (U74 38), (U74 39), (U74 40), (U74 41), U102 42, U102 43, U102 44, U102 45, U102 46, U102 47, U102 48, U102 49, U102 50, U102 51, U102 52, U102 53, U102 54, U102 55, .bool false, (U2 57), (U2 58), (U2 59), (U2 60), (U2 61), (U2 62), undef, undef]) (by kernel_rfl) (fun U102 => ?_)
            have x6 := SG.blk s94 x6 (by simp)
            have x38 := SG.blk s94 x38 (by simp)
            have c103 := (SG.belowR c75 s94 (fun kq e => by cases e))
            have rd104 := Rd.kept rd76 (SG.below s94)
            have rd105 := Rd.kept rd77 (SG.below s94)
            have rd106 := Rd.kept rd65 (SG.below s94)
            refine h21 _ _ ?_
            refine wp_cond_false (by kernel_rfl) ?_
            refine wp_skip ?_
            refine h20 _ _ ?_
            refine wp_seq_k (fun K22 h22 => ?_)
            refine W.region_plain (row := none) [(0, false), (1, false), (2, true), (3, false)] (by kernel_rfl) ?_
            have s107 := SG.self w93 none
            refine W.sq (v := .slice A2_3 n2_3 c2_3) rfl (r_move rfl (by kernel_rfl)) (by kernel_rfl) rfl rfl ?_
            refine W.sq (v := .int .i64 x67) rfl (r_move rfl (by kernel_rfl)) (by kernel_rfl) rfl rfl ?_
            refine W.sc (vs := [.slice A2_3 n2_3 c2_3, .int .i64 x67]) rfl rfl (by kernel_rfl) (by kernel_rfl) (by kernel_rfl) rfl (l1Put_any A2_3 n2_3 c2_3 yu x67 _ (Rd.kept rd104 (SG.below s107)) fm2_3 (by have h7 := hl2_3; first | omega)) ?_
            rintro e w116 ⟨A108, n109, c110, rfl, rd111, fm112, b115⟩
            have s117 := SG.of_below s107 b115
            refine ⟨_, rfl, s117, ?_⟩
            have hl113 := rd_ints_len rd111
            refine W.sq (v := .slice A108 n109 c110) rfl (r_assign rfl (by kernel_rfl)) (by kernel_rfl) rfl rfl ?_
            refine W.sch_endU (fun U118 => [.agg #[.int .i64 m, .slice A n c], .slice A2 n2 c2, .bool false, .slice A108 n109 c110, .slice A2_4 n2_4 c2_4, .pointer (some ⟨b2, 0, none⟩), undef, undef, undef, undef, .slice none 0 0, .slice none 0 0, .bool mo3, .int .i64 ((i : Nat) : Int), .pointer (some ⟨b26, 0, none⟩), .int .i64 ((k : Nat) : Int), .int .i64 x67, .bool true, (U14 18), (U14 19), (U14 20), (U14 21), .bool true, (U1 23), (U1 24), (U40 25), (U40 26), (U40 27), (U40 28), (U40 29), (U46 30), .bool true, (U2 32), (U2 33), (U74 34), (U74 35), (U74 36), (U74 37), (U74 38), (U74 39), (U74 40), (U74 41), (U102 42), (U102 43), (U102 44), (U102 45), (U102 46), (U102 47), (U102 48), (U102 49), (U102 50), (U102 51), (U102 52), (U102 53), (U102 54), (U102 55), .bool false, U118 57, U118 58, U118 59, (U2 60), (U2 61), (U2 62), undef, undef]) (by kernel_rfl) (fun U118 => ?_)
            have x6 := SG.blk s117 x6 (by simp)
            have x38 := SG.blk s117 x38 (by simp)
            have c119 := (SG.belowR c103 s117 (fun kq e => by cases e))
            have rd120 := Rd.kept rd104 (SG.below s117)
            have rd121 := Rd.kept rd105 (SG.below s117)
            have rd122 := Rd.kept rd106 (SG.below s117)
            refine h22 _ _ ?_
            refine wp_seq_k (fun K23 h23 => ?_)
            refine W.region_plain (row := none) [(0, false), (1, false), (2, true), (3, false)] (by kernel_rfl) ?_
            have s123 := SG.self w116 none
            refine W.sq (v := .slice A2_4 n2_4 c2_4) rfl (r_move rfl (by kernel_rfl)) (by kernel_rfl) rfl rfl ?_
            refine W.sq (v := .int .i64 ((i : Nat) : Int)) rfl (r_move rfl (by kernel_rfl)) (by kernel_rfl) rfl rfl ?_
            refine W.sc (vs := [.slice A2_4 n2_4 c2_4, .int .i64 ((i : Nat) : Int)]) rfl rfl (by kernel_rfl) (by kernel_rfl) (by kernel_rfl) rfl (l1Put_any A2_4 n2_4 c2_4 xu ((i : Nat) : Int) _ (Rd.kept rd121 (SG.below s123)) fm2_4 (by have h7 := hl2_4; first | omega)) ?_
            rintro e w132 ⟨A124, n125, c126, rfl, rd127, fm128, b131⟩
            have s133 := SG.of_below s123 b131
            refine ⟨_, rfl, s133, ?_⟩
            have hl129 := rd_ints_len rd127
            refine W.sq (v := .slice A124 n125 c126) rfl (r_assign rfl (by kernel_rfl)) (by kernel_rfl) rfl rfl ?_
            refine W.sch_endU (fun U134 => [.agg #[.int .i64 m, .slice A n c], .slice A2 n2 c2, .bool false, .slice A108 n109 c110, .slice A124 n125 c126, .pointer (some ⟨b2, 0, none⟩), undef, undef, undef, undef, .slice none 0 0, .slice none 0 0, .bool mo3, .int .i64 ((i : Nat) : Int), .pointer (some ⟨b26, 0, none⟩), .int .i64 ((k : Nat) : Int), .int .i64 x67, .bool true, (U14 18), (U14 19), (U14 20), (U14 21), .bool true, (U1 23), (U1 24), (U40 25), (U40 26), (U40 27), (U40 28), (U40 29), (U46 30), .bool true, (U2 32), (U2 33), (U74 34), (U74 35), (U74 36), (U74 37), (U74 38), (U74 39), (U74 40), (U74 41), (U102 42), (U102 43), (U102 44), (U102 45), (U102 46), (U102 47), (U102 48), (U102 49), (U102 50), (U102 51), (U102 52), (U102 53), (U102 54), (U102 55), .bool false, (U118 57), (U118 58), (U118 59), U134 60, U134 61, U134 62, undef, undef]) (by kernel_rfl) (fun U134 => ?_)
            have x6 := SG.blk s133 x6 (by simp)
            have x38 := SG.blk s133 x38 (by simp)
            have c135 := (SG.belowR c119 s133 (fun kq e => by cases e))
            have rd136 := Rd.kept rd120 (SG.below s133)
            have rd137 := Rd.kept rd121 (SG.below s133)
            have rd138 := Rd.kept rd122 (SG.below s133)
            have rd139 := Rd.kept rd111 (SG.below s133)
            refine h23 _ _ ?_
            refine W.region_quiet [(0, false)] (by kernel_rfl) ?_
            refine W.sq (v := .bool true) rfl (r_assign rfl (by kernel_rfl)) (by kernel_rfl) rfl rfl ?_
            refine W.sch_end (l' := [.agg #[.int .i64 m, .slice A n c], .slice A2 n2 c2, .bool false, .slice A108 n109 c110, .slice A124 n125 c126, .pointer (some ⟨b2, 0, none⟩), undef, undef, undef, undef, .slice none 0 0, .slice none 0 0, .bool true, .int .i64 ((i : Nat) : Int), .pointer (some ⟨b26, 0, none⟩), .int .i64 ((k : Nat) : Int), .int .i64 x67, .bool true, (U14 18), (U14 19), (U14 20), (U14 21), .bool true, (U1 23), (U1 24), (U40 25), (U40 26), (U40 27), (U40 28), (U40 29), (U46 30), .bool true, (U2 32), (U2 33), (U74 34), (U74 35), (U74 36), (U74 37), (U74 38), (U74 39), (U74 40), (U74 41), (U102 42), (U102 43), (U102 44), (U102 45), (U102 46), (U102 47), (U102 48), (U102 49), (U102 50), (U102 51), (U102 52), (U102 53), (U102 54), (U102 55), .bool false, (U118 57), (U118 58), (U118 59), (U134 60), (U134 61), (U134 62), undef, undef]) (by kernel_rfl) ?_
            refine h18 _ _ ?_
            refine W.region_quiet [(0, false), (1, false), (2, false)] (by kernel_rfl) ?_
            refine W.sq (v := .int .i64 ((k : Nat) : Int)) rfl (r_move rfl (by kernel_rfl)) (by kernel_rfl) rfl rfl ?_
            refine W.sq (v := .int .i64 ((k + 1 : Nat) : Int)) rfl (r_add (m := ((k : Nat) : Int)) (n := 1) (z := ((k + 1 : Nat) : Int)) rfl (by kernel_rfl) (by kernel_rfl) (by omega) (by omega)) (by kernel_rfl) rfl rfl ?_
            refine W.sq (v := .int .i64 ((k + 1 : Nat) : Int)) rfl (r_assign rfl (by kernel_rfl)) (by kernel_rfl) rfl rfl ?_
            refine W.sch_endU (fun U140 => [.agg #[.int .i64 m, .slice A n c], .slice A2 n2 c2, .bool false, .slice A108 n109 c110, .slice A124 n125 c126, .pointer (some ⟨b2, 0, none⟩), undef, undef, undef, undef, .slice none 0 0, .slice none 0 0, .bool true, .int .i64 ((i : Nat) : Int), .pointer (some ⟨b26, 0, none⟩), .int .i64 ((k + 1 : Nat) : Int), .int .i64 x67, .bool true, (U14 18), (U14 19), (U14 20), (U14 21), .bool true, (U1 23), (U1 24), (U40 25), (U40 26), (U40 27), (U40 28), (U40 29), (U46 30), .bool true, U140 32, U140 33, (U74 34), (U74 35), (U74 36), (U74 37), (U74 38), (U74 39), (U74 40), (U74 41), (U102 42), (U102 43), (U102 44), (U102 45), (U102 46), (U102 47), (U102 48), (U102 49), (U102 50), (U102 51), (U102 52), (U102 53), (U102 54), (U102 55), .bool false, (U118 57), (U118 58), (U118 59), (U134 60), (U134 61), (U134 62), undef, undef]) (by kernel_rfl) (fun U140 => ?_)
            exact h15 _ _ _ (by omega : (2 - (k + 1)) < _) ⟨k + 1, putL yu x67, putL xu (i : Int), true, A108, n109, c110, A124, n125, c126, (fun iU9 => [.agg #[.int .i64 m, .slice A n c], .slice A2 n2 c2, .bool false, .slice A108 n109 c110, .slice A124 n125 c126, .pointer (some ⟨b2, 0, none⟩), undef, undef, undef, undef, .slice none 0 0, .slice none 0 0, .bool true, .int .i64 ((i : Nat) : Int), .pointer (some ⟨b26, 0, none⟩), .int .i64 ((k + 1 : Nat) : Int), .int .i64 x67, .bool true, (U14 18), (U14 19), (U14 20), (U14 21), .bool true, (U1 23), (U1 24), (U40 25), (U40 26), (U40 27), (U40 28), (U40 29), (U46 30), .bool true, (U140 32), (U140 33), (U74 34), (U74 35), (U74 36), (U74 37), (U74 38), (U74 39), (U74 40), (U74 41), (U102 42), (U102 43), (U102 44), (U102 45), (U102 46), (U102 47), (U102 48), (U102 49), (U102 50), (U102 51), (U102 52), (U102 53), (U102 54), (U102 55), .bool false, (U118 57), (U118 58), (U118 59), (U134 60), (U134 61), (U134 62), undef, undef].getD iU9 undef), (by kernel_rfl), rfl, (by omega), (hf3.put (by omega) hx17 (by omega) (by omega) (openQ_yes q82) q95), (fun _ => by have h9 := put2_len2 q95; rcases Bool.eq_false_or_eq_true mo3 with e | e <;> first | (have h8 := hmt3 e; omega) | (have h8 := hmf3 e; rw [h8.1, h8.2.1] at h9; rw [h8.1, h8.2.1]; exact h9)), (fun e => by cases e), x6, x38, fm112, rd139, fm128, rd127, c135⟩
      · refine W.sq (v := .bool false) rfl (r_lss (m := ((k : Nat) : Int)) (n := 2) rfl (by kernel_rfl) (by kernel_rfl) (decide_eq_false q45)) (by kernel_rfl) rfl rfl ?_
        refine W.sch_endU (fun U141 => [.agg #[.int .i64 m, .slice A n c], .slice A2 n2 c2, .bool false, .slice A2_3 n2_3 c2_3, .slice A2_4 n2_4 c2_4, .pointer (some ⟨b2, 0, none⟩), undef, undef, undef, undef, .slice none 0 0, .slice none 0 0, .bool mo3, .int .i64 ((i : Nat) : Int), .pointer (some ⟨b26, 0, none⟩), .int .i64 ((k : Nat) : Int), (U2 16), .bool true, (U14 18), (U14 19), (U14 20), (U14 21), .bool true, (U1 23), (U1 24), (U40 25), (U40 26), (U40 27), (U40 28), (U40 29), U141 30, .bool false, (U2 32), (U2 33), (U2 34), (U2 35), (U2 36), (U2 37), (U2 38), (U2 39), (U2 40), (U2 41), (U2 42), (U2 43), (U2 44), (U2 45), (U2 46), (U2 47), (U2 48), (U2 49), (U2 50), (U2 51), (U2 52), (U2 53), (U2 54), (U2 55), (U2 56), (U2 57), (U2 58), (U2 59), (U2 60), (U2 61), (U2 62), undef, undef]) (by kernel_rfl) (fun U141 => ?_)
        refine h17 _ _ ?_
        refine wp_cond_false (by kernel_rfl) ?_
        refine wp_exit ?_
        refine h12 _ _ ?_
        refine W.region_quiet [(0, false), (1, false), (2, false)] (by kernel_rfl) ?_
        refine W.sq (v := .int .i64 ((i : Nat) : Int)) rfl (r_move rfl (by kernel_rfl)) (by kernel_rfl) rfl rfl ?_
        refine W.sq (v := .int .i64 ((i + 1 : Nat) : Int)) rfl (r_add (m := ((i : Nat) : Int)) (n := 1) (z := ((i + 1 : Nat) : Int)) rfl (by kernel_rfl) (by kernel_rfl) (by omega) (by omega)) (by kernel_rfl) rfl rfl ?_
        refine W.sq (v := .int .i64 ((i + 1 : Nat) : Int)) rfl (r_assign rfl (by kernel_rfl)) (by kernel_rfl) rfl rfl ?_
        refine W.sch_endU (fun U142 => [.agg #[.int .i64 m, .slice A n c], .slice A2 n2 c2, .bool false, .slice A2_3 n2_3 c2_3, .slice A2_4 n2_4 c2_4, .pointer (some ⟨b2, 0, none⟩), undef, undef, undef, undef, .slice none 0 0, .slice none 0 0, .bool mo3, .int .i64 ((i + 1 : Nat) : Int), .pointer (some ⟨b26, 0, none⟩), .int .i64 ((k : Nat) : Int), (U2 16), .bool true, (U14 18), (U14 19), (U14 20), (U14 21), .bool true, U142 23, U142 24, (U40 25), (U40 26), (U40 27), (U40 28), (U40 29), (U141 30), .bool false, (U2 32), (U2 33), (U2 34), (U2 35), (U2 36), (U2 37), (U2 38), (U2 39), (U2 40), (U2 41), (U2 42), (U2 43), (U2 44), (U2 45), (U2 46), (U2 47), (U2 48), (U2 49), (U2 50), (U2 51), (U2 52), (U2 53), (U2 54), (U2 55), (U2 56), (U2 57), (U2 58), (U2 59), (U2 60), (U2 61), (U2 62), undef, undef]) (by kernel_rfl) (fun U142 => ?_)
        exact h9 _ _ _ (by omega : (n - (i + 1)) < _) ⟨i + 1, yu, xu, mo3, A2_3, n2_3, c2_3, A2_4, n2_4, c2_4, (fun iU9 => [.agg #[.int .i64 m, .slice A n c], .slice A2 n2 c2, .bool false, .slice A2_3 n2_3 c2_3, .slice A2_4 n2_4 c2_4, .pointer (some ⟨b2, 0, none⟩), undef, undef, undef, undef, .slice none 0 0, .slice none 0 0, .bool mo3, .int .i64 ((i + 1 : Nat) : Int), .pointer (some ⟨b26, 0, none⟩), .int .i64 ((k : Nat) : Int), (U2 16), .bool true, (U14 18), (U14 19), (U14 20), (U14 21), .bool true, (U142 23), (U142 24), (U40 25), (U40 26), (U40 27), (U40 28), (U40 29), (U141 30), .bool false, (U2 32), (U2 33), (U2 34), (U2 35), (U2 36), (U2 37), (U2 38), (U2 39), (U2 40), (U2 41), (U2 42), (U2 43), (U2 44), (U2 45), (U2 46), (U2 47), (U2 48), (U2 49), (U2 50), (U2 51), (U2 52), (U2 53), (U2 54), (U2 55), (U2 56), (U2 57), (U2 58), (U2 59), (U2 60), (U2 61), (U2 62), undef, undef].getD iU9 undef), (by kernel_rfl), rfl, (by omega), hf3, hmt3, (fun e => ⟨(hmf3 e).1, (hmf3 e).2.1, (hmf3 e).2.2.1.next hx17 ((hmf3 e).2.2.2.1 (by omega)) ((hmf3 e).2.2.2.2 (by omega))⟩), x6, fm2_3, rd2_3, fm2_4, rd2_4, c44⟩
    · refine W.sq (v := .bool false) rfl (r_lss (m := ((i : Nat) : Int)) (n := ((n : Nat) : Int)) rfl (by kernel_rfl) (by kernel_rfl) (decide_eq_false q13)) (by kernel_rfl) rfl rfl ?_
      refine W.sch_endU (fun U143 => [.agg #[.int .i64 m, .slice A n c], .slice A2 n2 c2, .bool false, .slice A1_3 n1_3 c1_3, .slice A1_4 n1_4 c1_4, .pointer (some ⟨b2, 0, none⟩), undef, undef, undef, undef, .slice none 0 0, .slice none 0 0, .bool mo2, .int .i64 ((i : Nat) : Int), (U1 14), (U1 15), (U1 16), .bool true, U143 18, U143 19, U143 20, U143 21, .bool false, (U1 23), (U1 24), (U1 25), (U1 26), (U1 27), (U1 28), (U1 29), (U1 30), (U1 31), (U1 32), (U1 33), (U1 34), (U1 35), (U1 36), (U1 37), (U1 38), (U1 39), (U1 40), (U1 41), (U1 42), (U1 43), (U1 44), (U1 45), (U1 46), (U1 47), (U1 48), (U1 49), (U1 50), (U1 51), (U1 52), (U1 53), (U1 54), (U1 55), (U1 56), (U1 57), (U1 58), (U1 59), (U1 60), (U1 61), (U1 62), undef, undef]) (by kernel_rfl) (fun U143 => ?_)
      refine h11 _ _ ?_
      refine wp_cond_false (by kernel_rfl) ?_
      refine wp_exit ?_
      exact h4 _ _ _ (by rcases Bool.eq_false_or_eq_true mo2 with e | e <;> rw [e] <;> simp only [Bool.toNat_true, Bool.toNat_false, qmo] <;> first | (have h9 := hmt2 e; omega) | (rw [(hmf2 e).1, (hmf2 e).2.1]; omega) : (2 * (18 - yt.length - xt.length) + mo2.toNat) < _) ⟨yt, xt, mo2, A1_3, n1_3, c1_3, A1_4, n1_4, c1_4, (fun iU9 => [.agg #[.int .i64 m, .slice A n c], .slice A2 n2 c2, .bool false, .slice A1_3 n1_3 c1_3, .slice A1_4 n1_4 c1_4, .pointer (some ⟨b2, 0, none⟩), undef, undef, undef, undef, .slice none 0 0, .slice none 0 0, .bool mo2, .int .i64 ((i : Nat) : Int), (U1 14), (U1 15), (U1 16), .bool true, (U143 18), (U143 19), (U143 20), (U143 21), .bool false, (U1 23), (U1 24), (U1 25), (U1 26), (U1 27), (U1 28), (U1 29), (U1 30), (U1 31), (U1 32), (U1 33), (U1 34), (U1 35), (U1 36), (U1 37), (U1 38), (U1 39), (U1 40), (U1 41), (U1 42), (U1 43), (U1 44), (U1 45), (U1 46), (U1 47), (U1 48), (U1 49), (U1 50), (U1 51), (U1 52), (U1 53), (U1 54), (U1 55), (U1 56), (U1 57), (U1 58), (U1 59), (U1 60), (U1 61), (U1 62), undef, undef].getD iU9 undef), (by kernel_rfl), rfl, hf2, (fun e => by have h9 := (hmf2 e).2.2; rw [show i = ps.length by omega] at h9; exact h9), x6, fm1_3, rd1_3, fm1_4, rd1_4, c12⟩
  · rw [q11]
    have qmo := q11
    refine wp_cond_false (by kernel_rfl) ?_
    refine wp_exit ?_
    refine h2 _ _ ?_
    refine wp_seq_k (fun K24 h24 => ?_)
    refine W.region_quiet [(0, false), (1, false), (2, false), (3, false)] (by kernel_rfl) ?_
    refine W.sq (v := .slice A0_3 n0_3 c0_3) rfl (r_move rfl (by kernel_rfl)) (by kernel_rfl) rfl rfl ?_
    refine W.sq (v := .slice A0_4 n0_4 c0_4) rfl (r_move rfl (by kernel_rfl)) (by kernel_rfl) rfl rfl ?_
    refine W.sq (v := .slice A0_3 n0_3 c0_3) rfl (r_assign rfl (by kernel_rfl)) (by kernel_rfl) rfl rfl ?_
    refine W.sq (v := .slice A0_4 n0_4 c0_4) rfl (r_assign rfl (by kernel_rfl)) (by kernel_rfl) rfl rfl ?_
    refine W.sch_endU (fun U144 => [.agg #[.int .i64 m, .slice A n c], .slice A2 n2 c2, .bool false, .slice A0_3 n0_3 c0_3, .slice A0_4 n0_4 c0_4, .pointer (some ⟨b2, 0, none⟩), undef, undef, undef, undef, .slice A0_3 n0_3 c0_3, .slice A0_4 n0_4 c0_4, .bool false, (U0 13), (U0 14), (U0 15), (U0 16), .bool false, (U0 18), (U0 19), (U0 20), (U0 21), (U0 22), (U0 23), (U0 24), (U0 25), (U0 26), (U0 27), (U0 28), (U0 29), (U0 30), (U0 31), (U0 32), (U0 33), (U0 34), (U0 35), (U0 36), (U0 37), (U0 38), (U0 39), (U0 40), (U0 41), (U0 42), (U0 43), (U0 44), (U0 45), (U0 46), (U0 47), (U0 48), (U0 49), (U0 50), (U0 51), (U0 52), (U0 53), (U0 54), (U0 55), (U0 56), (U0 57), (U0 58), (U0 59), (U0 60), (U0 61), (U0 62), U144 63, U144 64]) (by kernel_rfl) (fun U144 => ?_)
    refine h24 _ _ ?_
    refine wp_ret ?_
    try simp only [Exit.then]
    refine ret2 (v := .slice A0_3 n0_3 c0_3) (x := .slice A0_4 n0_4 c0_4) rfl (by kernel_rfl) (by kernel_rfl) ?_
    have e9 := hf.fin (by omega) (hsh qmo)
    exact ⟨_, _, _, _, _, _, rfl, (by rw [← e9.1]; exact rd0_3), fm0_3, (by rw [← e9.2]; exact rd0_4), fm0_4, c10⟩

set_option maxRecDepth 100000 in
set_option maxHeartbeats 1000000 in
theorem l4Spread_true (m : Int) (A : Option Addr) (n c : Nat) (ps : List Pp) (A2 : Option Addr) (n2 c2 : Nat) (vs : List Vv) (a : Int) (A3 : Option Addr) (n3 c3 : Nat) (ys : List Int) (A4 : Option Addr) (n4 c4 : Nat) (xs : List Int) (w : World) (ha : Rd w 4 A n (pipesV ps)) (hb : Rd w 4 A2 n2 (valvesV vs)) (hn : n ≤ 1048576) (hn2 : n2 ≤ 1048576) (hp : pipesIn ps m.toNat) (hm : 1 ≤ m ∧ m ≤ 8) (hlen10 : ps.length ≤ 10) (hy : Rd w 1 A3 n3 (intsV ys)) (hfy : Fm A3 n3 c3) (hx : Rd w 1 A4 n4 (intsV xs)) (hfx : Fm A4 n4 c4) (hq0 : FndQ (linked ps (openQ vs true)) m.toNat ps.length a ys xs) :
    Calls Try.prog 112 #[.agg #[.int .i64 m, .slice A n c], .slice A2 n2 c2, .bool true, .slice A3 n3 c3, .slice A4 n4 c4] w fun e w' => ∃ A5 n5 c5 A6 n6 c6, e = .returned (.tuple #[.slice A5 n5 c5, .slice A6 n6 c6]) ∧ Rd w' 1 A5 n5 (intsV (nodesL (linked ps (openQ vs true)) m.toNat a true)) ∧ Fm A5 n5 c5 ∧ Rd w' 1 A6 n6 (intsV (idxL (linked ps (openQ vs true)) ps.length a true)) ∧ Fm A6 n6 c6 ∧ Below w.heap.size w w' := by
  have hl := rd_pipes_len ha
  have hl2 := rd_valves_len hb
  have hly := rd_ints_len hy
  have hlx := rd_ints_len hx
  have hfl0 := hq0.len
  go_enter Try.func112, Try.ntmps112
  refine wp_seq_k (fun K1 h1 => ?_)
  refine W.region_plain (row := none) [(0, true), (1, false), (2, false)] (by kernel_rfl) ?_
  have s1 := SG.self w none
  refine W.sn (fun b => .pointer (some ⟨b, 0, none⟩)) #[.int .i64 m, .slice A n c] 32 s1 rfl (by kernel_rfl) rfl (fun _ => by kernel_rfl) (fun b2 w3 hb4 k5 x6 s7 => ?_)
  have lo8 : w.heap.size ≤ b2 := by have := ((SG.belowR (Below.refl _ _) s1 (fun kq e => by cases e))).size; omega
  refine W.sq (v := .slice none 0 0) rfl (r_assign rfl (by kernel_rfl)) (by kernel_rfl) rfl rfl ?_
  refine W.sq (v := .slice none 0 0) rfl (r_assign rfl (by kernel_rfl)) (by kernel_rfl) rfl rfl ?_
  refine W.sch_end (l' := [.agg #[.int .i64 m, .slice A n c], .slice A2 n2 c2, .bool true, .slice A3 n3 c3, .slice A4 n4 c4, .pointer (some ⟨b2, 0, none⟩), undef, undef, undef, undef, .slice none 0 0, .slice none 0 0, undef, undef, undef, undef, undef, undef, undef, undef, undef, undef, undef, undef, undef, undef, undef, undef, undef, undef, undef, undef, undef, undef, undef, undef, undef, undef, undef, undef, undef, undef, undef, undef, undef, undef, undef, undef, undef, undef, undef, undef, undef, undef, undef, undef, undef, undef, undef, undef, undef, undef, undef, undef, undef]) (by kernel_rfl) ?_
  have c9 := (SG.belowR (Below.refl _ _) s7 (fun kq e => by cases e))
  refine h1 _ _ ?_
  refine wp_seq_k (fun K2 h2 => ?_)
  refine wp_seq_k (fun K3 h3 => ?_)
  refine W.region_quiet [(0, false)] (by kernel_rfl) ?_
  refine W.sq (v := .bool true) rfl (r_assign rfl (by kernel_rfl)) (by kernel_rfl) rfl rfl ?_
  refine W.sch_end (l' := [.agg #[.int .i64 m, .slice A n c], .slice A2 n2 c2, .bool true, .slice A3 n3 c3, .slice A4 n4 c4, .pointer (some ⟨b2, 0, none⟩), undef, undef, undef, undef, .slice none 0 0, .slice none 0 0, .bool true, undef, undef, undef, undef, undef, undef, undef, undef, undef, undef, undef, undef, undef, undef, undef, undef, undef, undef, undef, undef, undef, undef, undef, undef, undef, undef, undef, undef, undef, undef, undef, undef, undef, undef, undef, undef, undef, undef, undef, undef, undef, undef, undef, undef, undef, undef, undef, undef, undef, undef, undef, undef]) (by kernel_rfl) ?_
  refine h3 _ _ ?_
  refine wp_block ?_
  refine loopK (fun am0 aa0 wl0 => ∃ (ys0 : List Int) (xs0 : List Int) (mo : Bool) (A0_3 : Option Addr) (n0_3 : Nat) (c0_3 : Nat) (A0_4 : Option Addr) (n0_4 : Nat) (c0_4 : Nat) (U0 : Nat → Value), aa0 = ⟨[.agg #[.int .i64 m, .slice A n c], .slice A2 n2 c2, .bool true, .slice A0_3 n0_3 c0_3, .slice A0_4 n0_4 c0_4, .pointer (some ⟨b2, 0, none⟩), undef, undef, undef, undef, .slice none 0 0, .slice none 0 0, .bool mo, U0 13, U0 14, U0 15, U0 16, U0 17, U0 18, U0 19, U0 20, U0 21, U0 22, U0 23, U0 24, U0 25, U0 26, U0 27, U0 28, U0 29, U0 30, U0 31, U0 32, U0 33, U0 34, U0 35, U0 36, U0 37, U0 38, U0 39, U0 40, U0 41, U0 42, U0 43, U0 44, U0 45, U0 46, U0 47, U0 48, U0 49, U0 50, U0 51, U0 52, U0 53, U0 54, U0 55, U0 56, U0 57, U0 58, U0 59, U0 60, U0 61, U0 62, undef, undef].toArray, []⟩ ∧ (am0 = 2 * (18 - ys0.length - xs0.length) + mo.toNat) ∧ (FndQ (linked ps (openQ vs true)) m.toNat ps.length a ys0 xs0) ∧ (mo = false → shutE ps (openQ vs true) (inQ ys0 xs0) ps.length) ∧ (wl0.heap[b2]? = some (.cells #[.int .i64 m, .slice A n c] 32 (0, 0))) ∧ (Fm A0_3 n0_3 c0_3) ∧ (Rd wl0 1 A0_3 n0_3 (intsV ys0)) ∧ (Fm A0_4 n0_4 c0_4) ∧ (Rd wl0 1 A0_4 n0_4 (intsV xs0)) ∧ (Below w.heap.size w wl0)) (2 * (18 - ys.length - xs.length) + true.toNat) ?_ ?_
  · exact ⟨ys, xs, true, A3, n3, c3, A4, n4, c4, (fun iU9 => [.agg #[.int .i64 m, .slice A n c], .slice A2 n2 c2, .bool true, .slice A3 n3 c3, .slice A4 n4 c4, .pointer (some ⟨b2, 0, none⟩), undef, undef, undef, undef, .slice none 0 0, .slice none 0 0, .bool true, undef, undef, undef, undef, undef, undef, undef, undef, undef, undef, undef, undef, undef, undef, undef, undef, undef, undef, undef, undef, undef, undef, undef, undef, undef, undef, undef, undef, undef, undef, undef, undef, undef, undef, undef, undef, undef, undef, undef, undef, undef, undef, undef, undef, undef, undef, undef, undef, undef, undef, undef, undef].getD iU9 undef), (by kernel_rfl), rfl, hq0, (fun e => by cases e), x6, hfy, (Rd.kept hy c9), hfx, (Rd.kept hx c9), c9⟩
  rintro am0 aa0 wl0 K4 h4 ⟨ys0, xs0, mo, A0_3, n0_3, c0_3, A0_4, n0_4, c0_4, U0, rfl, rfl, hf, hsh, x6, fm0_3, rd0_3, fm0_4, rd0_4, c10⟩
  have hl0_3 := rd_ints_len rd0_3
  have hl0_4 := rd_ints_len rd0_4
  have hfl := hf.len
  refine wp_seq_k (fun K5 h5 => ?_)
  refine wp_seq_k (fun K6 h6 => ?_)
  refine W.region_quiet [(0, false)] (by kernel_rfl) ?_
  refine W.sq (v := .bool mo) rfl (r_move rfl (by kernel_rfl)) (by kernel_rfl) rfl rfl ?_
  refine W.sch_end (l' := [.agg #[.int .i64 m, .slice A n c], .slice A2 n2 c2, .bool true, .slice A0_3 n0_3 c0_3, .slice A0_4 n0_4 c0_4, .pointer (some ⟨b2, 0, none⟩), undef, undef, undef, undef, .slice none 0 0, .slice none 0 0, .bool mo, (U0 13), (U0 14), (U0 15), (U0 16), .bool mo, (U0 18), (U0 19), (U0 20), (U0 21), (U0 22), (U0 23), (U0 24), (U0 25), (U0 26), (U0 27), (U0 28), (U0 29), (U0 30), (U0 31), (U0 32), (U0 33), (U0 34), (U0 35), (U0 36), (U0 37), (U0 38), (U0 39), (U0 40), (U0 41), (U0 42), (U0 43), (U0 44), (U0 45), (U0 46), (U0 47), (U0 48), (U0 49), (U0 50), (U0 51), (U0 52), (U0 53), (U0 54), (U0 55), (U0 56), (U0 57), (U0 58), (U0 59), (U0 60), (U0 61), (U0 62), undef, undef]) (by kernel_rfl) ?_
  refine h6 _ _ ?_
  rcases Bool.eq_false_or_eq_true mo with q11 | q11
  · rw [q11]
    have qmo := q11
    refine wp_cond_true (by kernel_rfl) ?_
    refine wp_skip ?_
    refine h5 _ _ ?_
    refine wp_block ?_
    refine wp_seq_k (fun K7 h7 => ?_)
    refine W.region_quiet [(0, false)] (by kernel_rfl) ?_
    refine W.sq (v := .bool false) rfl (r_assign rfl (by kernel_rfl)) (by kernel_rfl) rfl rfl ?_
    refine W.sch_end (l' := [.agg #[.int .i64 m, .slice A n c], .slice A2 n2 c2, .bool true, .slice A0_3 n0_3 c0_3, .slice A0_4 n0_4 c0_4, .pointer (some ⟨b2, 0, none⟩), undef, undef, undef, undef, .slice none 0 0, .slice none 0 0, .bool false, (U0 13), (U0 14), (U0 15), (U0 16), .bool true, (U0 18), (U0 19), (U0 20), (U0 21), (U0 22), (U0 23), (U0 24), (U0 25), (U0 26), (U0 27), (U0 28), (U0 29), (U0 30), (U0 31), (U0 32), (U0 33), (U0 34), (U0 35), (U0 36), (U0 37), (U0 38), (U0 39), (U0 40), (U0 41), (U0 42), (U0 43), (U0 44), (U0 45), (U0 46), (U0 47), (U0 48), (U0 49), (U0 50), (U0 51), (U0 52), (U0 53), (U0 54), (U0 55), (U0 56), (U0 57), (U0 58), (U0 59), (U0 60), (U0 61), (U0 62), undef, undef]) (by kernel_rfl) ?_
    refine h7 _ _ ?_
    refine wp_seq_k (fun K8 h8 => ?_)
    refine W.region_quiet [(0, false)] (by kernel_rfl) ?_
    refine W.sq (v := .int .i64 0) rfl (r_assign rfl (by kernel_rfl)) (by kernel_rfl) rfl rfl ?_
    refine W.sch_end (l' := [.agg #[.int .i64 m, .slice A n c], .slice A2 n2 c2, .bool true, .slice A0_3 n0_3 c0_3, .slice A0_4 n0_4 c0_4, .pointer (some ⟨b2, 0, none⟩), undef, undef, undef, undef, .slice none 0 0, .slice none 0 0, .bool false, .int .i64 0, (U0 14), (U0 15), (U0 16), .bool true, (U0 18), (U0 19), (U0 20), (U0 21), (U0 22), (U0 23), (U0 24), (U0 25), (U0 26), (U0 27), (U0 28), (U0 29), (U0 30), (U0 31), (U0 32), (U0 33), (U0 34), (U0 35), (U0 36), (U0 37), (U0 38), (U0 39), (U0 40), (U0 41), (U0 42), (U0 43), (U0 44), (U0 45), (U0 46), (U0 47), (U0 48), (U0 49), (U0 50), (U0 51), (U0 52), (U0 53), (U0 54), (U0 55), (U0 56), (U0 57), (U0 58), (U0 59), (U0 60), (U0 61), (U0 62), undef, undef]) (by kernel_rfl) ?_
    refine h8 _ _ ?_
    refine wp_block ?_
    refine loopK (fun am1 aa1 wl1 => ∃ (i : Nat) (yt : List Int) (xt : List Int) (mo2 : Bool) (A1_3 : Option Addr) (n1_3 : Nat) (c1_3 : Nat) (A1_4 : Option Addr) (n1_4 : Nat) (c1_4 : Nat) (U1 : Nat → Value), aa1 = ⟨[.agg #[.int .i64 m, .slice A n c], .slice A2 n2 c2, .bool true, .slice A1_3 n1_3 c1_3, .slice A1_4 n1_4 c1_4, .pointer (some ⟨b2, 0, none⟩), undef, undef, undef, undef, .slice none 0 0, .slice none 0 0, .bool mo2, .int .i64 ((i : Nat) : Int), U1 14, U1 15, U1 16, .bool true, U1 18, U1 19, U1 20, U1 21, U1 22, U1 23, U1 24, U1 25, U1 26, U1 27, U1 28, U1 29, U1 30, U1 31, U1 32, U1 33, U1 34, U1 35, U1 36, U1 37, U1 38, U1 39, U1 40, U1 41, U1 42, U1 43, U1 44, U1 45, U1 46, U1 47, U1 48, U1 49, U1 50, U1 51, U1 52, U1 53, U1 54, U1 55, U1 56, U1 57, U1 58, U1 59, U1 60, U1 61, U1 62, undef, undef].toArray, []⟩ ∧ (am1 = n - i) ∧ (i ≤ n) ∧ (FndQ (linked ps (openQ vs true)) m.toNat ps.length a yt xt) ∧ (mo2 = true → ys0.length + xs0.length < yt.length + xt.length) ∧ (mo2 = false → yt = ys0 ∧ xt = xs0 ∧ shutE ps (openQ vs true) (inQ yt xt) i) ∧ (wl1.heap[b2]? = some (.cells #[.int .i64 m, .slice A n c] 32 (0, 0))) ∧ (Fm A1_3 n1_3 c1_3) ∧ (Rd wl1 1 A1_3 n1_3 (intsV yt)) ∧ (Fm A1_4 n1_4 c1_4) ∧ (Rd wl1 1 A1_4 n1_4 (intsV xt)) ∧ (Below w.heap.size w wl1)) (n - 0) ?_ ?_
    · exact ⟨0, ys0, xs0, false, A0_3, n0_3, c0_3, A0_4, n0_4, c0_4, (fun iU9 => [.agg #[.int .i64 m, .slice A n c], .slice A2 n2 c2, .bool true, .slice A0_3 n0_3 c0_3, .slice A0_4 n0_4 c0_4, .pointer (some ⟨b2, 0, none⟩), undef, undef, undef, undef, .slice none 0 0, .slice none 0 0, .bool false, .int .i64 0, (U0 14), (U0 15), (U0 16), .bool true, (U0 18), (U0 19), (U0 20), (U0 21), (U0 22), (U0 23), (U0 24), (U0 25), (U0 26), (U0 27), (U0 28), (U0 29), (U0 30), (U0 31), (U0 32), (U0 33), (U0 34), (U0 35), (U0 36), (U0 37), (U0 38), (U0 39), (U0 40), (U0 41), (U0 42), (U0 43), (U0 44), (U0 45), (U0 46), (U0 47), (U0 48), (U0 49), (U0 50), (U0 51), (U0 52), (U0 53), (U0 54), (U0 55), (U0 56), (U0 57), (U0 58), (U0 59), (U0 60), (U0 61), (U0 62), undef, undef].getD iU9 undef), (by kernel_rfl), rfl, (Nat.zero_le _), hf, (fun e => by cases e), (fun _ => ⟨rfl, rfl, shutE_zero _ _ _⟩), x6, fm0_3, rd0_3, fm0_4, rd0_4, c10⟩
    rintro am1 aa1 wl1 K9 h9 ⟨i, yt, xt, mo2, A1_3, n1_3, c1_3, A1_4, n1_4, c1_4, U1, rfl, rfl, hi, hf2, hmt2, hmf2, x6, fm1_3, rd1_3, fm1_4, rd1_4, c12⟩
    have hl1_3 := rd_ints_len rd1_3
    have hl1_4 := rd_ints_len rd1_4
    have hfl2 := hf2.len
    refine wp_seq_k (fun K10 h10 => ?_)
    refine wp_seq_k (fun K11 h11 => ?_)
    refine W.region_quiet [(0, false), (1, false), (2, false), (3, false), (4, false)] (by kernel_rfl) ?_
    refine W.sq (v := .int .i64 ((i : Nat) : Int)) rfl (r_move rfl (by kernel_rfl)) (by kernel_rfl) rfl rfl ?_
    refine W.sq (v := .pointer (some ⟨b2, 1, none⟩)) rfl (r_field (k := 1) rfl (by kernel_rfl) (by kernel_rfl)) (by kernel_rfl) rfl rfl ?_
    refine W.sq (v := .slice A n c) rfl (r_load rfl (by kernel_rfl) (by kernel_rfl) (eqS (blk_cell (j := 1) x6 (by kernel_rfl)))) (by kernel_rfl) rfl rfl ?_
    refine W.sq (v := .int .i64 ((n : Nat) : Int)) rfl (r_len (A := A) (n := n) (c := c) rfl (by kernel_rfl) (by kernel_rfl)) (by kernel_rfl) rfl rfl ?_
    by_cases q13 : (((i : Nat) : Int) : Int) < (((n : Nat) : Int) : Int)
    · refine W.sq (v := .bool true) rfl (r_lss (m := ((i : Nat) : Int)) (n := ((n : Nat) : Int)) rfl (by kernel_rfl) (by kernel_rfl) (decide_eq_true q13)) (by kernel_rfl) rfl rfl ?_
      refine W.sch_endU (fun U14 => [.agg #[.int .i64 m, .slice A n c], .slice A2 n2 c2, .bool true, .slice A1_3 n1_3 c1_3, .slice A1_4 n1_4 c1_4, .pointer (some ⟨b2, 0, none⟩), undef, undef, undef, undef, .slice none 0 0, .slice none 0 0, .bool mo2, .int .i64 ((i : Nat) : Int), (U1 14), (U1 15), (U1 16), .bool true, U14 18, U14 19, U14 20, U14 21, .bool true, (U1 23), (U1 24), (U1 25), (U1 26), (U1 27), (U1 28), (U1 29), (U1 30), (U1 31), (U1 32), (U1 33), (U1 34), (U1 35), (U1 36), (U1 37), (U1 38), (U1 39), (U1 40), (U1 41), (U1 42), (U1 43), (U1 44), (U1 45), (U1 46), (U1 47), (U1 48), (U1 49), (U1 50), (U1 51), (U1 52), (U1 53), (U1 54), (U1 55), (U1 56), (U1 57), (U1 58), (U1 59), (U1 60), (U1 61), (U1 62), undef, undef]) (by kernel_rfl) (fun U14 => ?_)
      refine h11 _ _ ?_
      refine wp_cond_true (by kernel_rfl) ?_
      refine wp_skip ?_
      refine h10 _ _ ?_
      refine wp_seq_k (fun K12 h12 => ?_)
      refine wp_block ?_
      refine wp_seq_k (fun K13 h13 => ?_)
      refine W.region_plain (row := none) [(0, false), (1, false), (2, false), (3, false), (4, false), (5, true), (6, true)] (by kernel_rfl) ?_
      have s15 := SG.self wl1 none
      refine W.sq (v := .pointer (some ⟨b2, 1, none⟩)) rfl (r_field (k := 1) rfl (by kernel_rfl) (by kernel_rfl)) (by kernel_rfl) rfl rfl ?_
      refine W.sq (v := .slice A n c) rfl (r_load rfl (by kernel_rfl) (by kernel_rfl) (sgS (blk_cell (j := 1) x6 (by kernel_rfl)) (by simp))) (by kernel_rfl) rfl rfl ?_
      refine W.sq (v := .int .i64 ((i : Nat) : Int)) rfl (r_move rfl (by kernel_rfl)) (by kernel_rfl) rfl rfl ?_
      obtain ⟨x16, hx17⟩ := get_of (zs := ps) (k := i) (by have := hl; omega)
      obtain ⟨b18, o19, hA20, hb21, hc22, hc23, hc24, hc25⟩ := Rd.elPipe ha hx17
      refine W.sq (v := .pointer (some ⟨b18, o19 + i * 4, none⟩)) rfl (r_idx (n := n) (c := c) (k := i) rfl (by kernel_rfl) hA20 (by kernel_rfl) (by kernel_rfl) (by have := hl; omega)) (by kernel_rfl) rfl rfl ?_
      refine W.sq (v := .agg #[.int .i64 x16.id, .int .i64 x16.fr, .int .i64 x16.to, .int .i64 x16.sz]) rfl (r_load4 rfl (by kernel_rfl) (by kernel_rfl) (by kernel_rfl) (sgS (later c12 hc22) (by simp)) (sgS (later c12 hc23) (by simp)) (sgS (later c12 hc24) (by simp)) (sgS (later c12 hc25) (by simp))) (by kernel_rfl) rfl rfl ?_
      refine W.sn (fun b => .pointer (some ⟨b, 0, none⟩)) #[.int .i64 0, .int .i64 0, .int .i64 0, .int .i64 0] 72 s15 rfl (by kernel_rfl) rfl (fun _ => by kernel_rfl) (fun b26 w27 hb28 k29 x30 s31 => ?_)
      have lo32 : w.heap.size ≤ b26 := by have := ((SG.belowR c12 s15 (fun kq e => by cases e))).size; omega
      have sp33 : Sp A1_3 n1_3 (some b26) := sp_new rd1_3 (by have := World.grownBy.size s15; have := hb28; omega)
      have sp34 : Sp A1_4 n1_4 (some b26) := sp_new rd1_4 (by have := World.grownBy.size s15; have := hb28; omega)
      have ne35 : b2 ≠ b26 := by have := blk_lt x6; have := World.grownBy.size s15; omega
      refine W.ss (v := .agg #[.int .i64 x16.id, .int .i64 x16.fr, .int .i64 x16.to, .int .i64 x16.sz]) (j := 0) (news := [.int .i64 x16.id, .int .i64 x16.fr, .int .i64 x16.to, .int .i64 x16.sz]) (cs' := #[.int .i64 x16.id, .int .i64 x16.fr, .int .i64 x16.to, .int .i64 x16.sz]) s31 rfl (by kernel_rfl) rfl rfl (by kernel_rfl) (by kernel_rfl) x30 (by kernel_rfl) (by kernel_rfl) (by simp) (by kernel_rfl) (by kernel_rfl) (.inr (by have := World.grownBy.size s15; have := hb28; omega)) (fun w36 g37 x38 s39 => ?_)
      refine W.sch_endU (fun U40 => [.agg #[.int .i64 m, .slice A n c], .slice A2 n2 c2, .bool true, .slice A1_3 n1_3 c1_3, .slice A1_4 n1_4 c1_4, .pointer (some ⟨b2, 0, none⟩), undef, undef, undef, undef, .slice none 0 0, .slice none 0 0, .bool mo2, .int .i64 ((i : Nat) : Int), .pointer (some ⟨b26, 0, none⟩), (U1 15), (U1 16), .bool true, (U14 18), (U14 19), (U14 20), (U14 21), .bool true, (U1 23), (U1 24), U40 25, U40 26, U40 27, U40 28, U40 29, (U1 30), (U1 31), (U1 32), (U1 33), (U1 34), (U1 35), (U1 36), (U1 37), (U1 38), (U1 39), (U1 40), (U1 41), (U1 42), (U1 43), (U1 44), (U1 45), (U1 46), (U1 47), (U1 48), (U1 49), (U1 50), (U1 51), (U1 52), (U1 53), (U1 54), (U1 55), (U1 56), (U1 57), (U1 58), (U1 59), (U1 60), (U1 61), (U1 62), undef, undef]) (by kernel_rfl) (fun U40 => ?_)
      have x6 := SG.blk s39 x6 (by simp)
      have c41 := (SG.belowR c12 s39 (fun kq e => by cases e))
      have rd42 := Rd.kept rd1_3 (SG.below s39)
      have rd43 := Rd.kept rd1_4 (SG.below s39)
      refine h13 _ _ ?_
      refine wp_seq_k (fun K14 h14 => ?_)
      refine W.region_quiet [(0, false)] (by kernel_rfl) ?_
      refine W.sq (v := .int .i64 0) rfl (r_assign rfl (by kernel_rfl)) (by kernel_rfl) rfl rfl ?_
      refine W.sch_end (l' := [.agg #[.int .i64 m, .slice A n c], .slice A2 n2 c2, .bool true, .slice A1_3 n1_3 c1_3, .slice A1_4 n1_4 c1_4, .pointer (some ⟨b2, 0, none⟩), undef, undef, undef, undef, .slice none 0 0, .slice none 0 0, .bool mo2, .int .i64 ((i : Nat) : Int), .pointer (some ⟨b26, 0, none⟩), .int .i64 0, (U1 16), .bool true, (U14 18), (U14 19), (U14 20), (U14 21), .bool true, (U1 23), (U1 24), (U40 25), (U40 26), (U40 27), (U40 28), (U40 29), (U1 30), (U1 31), (U1 32), (U1 33), (U1 34), (U1 35), (U1 36), (U1 37), (U1 38), (U1 39), (U1 40), (U1 41), (U1 42), (U1 43), (U1 44), (U1 45), (U1 46), (U1 47), (U1 48), (U1 49), (U1 50), (U1 51), (U1 52), (U1 53), (U1 54), (U1 55), (U1 56), (U1 57), (U1 58), (U1 59), (U1 60), (U1 61), (U1 62), undef, undef]) (by kernel_rfl) ?_
      refine h14 _ _ ?_
      refine wp_block ?_
      refine loopK (fun am2 aa2 wl2 => ∃ (k : Nat) (yu : List Int) (xu : List Int) (mo3 : Bool) (A2_3 : Option Addr) (n2_3 : Nat) (c2_3 : Nat) (A2_4 : Option Addr) (n2_4 : Nat) (c2_4 : Nat) (U2 : Nat → Value), aa2 = ⟨[.agg #[.int .i64 m, .slice A n c], .slice A2 n2 c2, .bool true, .slice A2_3 n2_3 c2_3, .slice A2_4 n2_4 c2_4, .pointer (some ⟨b2, 0, none⟩), undef, undef, undef, undef, .slice none 0 0, .slice none 0 0, .bool mo3, .int .i64 ((i : Nat) : Int), .pointer (some ⟨b26, 0, none⟩), .int .i64 ((k : Nat) : Int), U2 16, .bool true, (U14 18), (U14 19), (U14 20), (U14 21), .bool true, (U1 23), (U1 24), (U40 25), (U40 26), (U40 27), (U40 28), (U40 29), U2 30, U2 31, U2 32, U2 33, U2 34, U2 35, U2 36, U2 37, U2 38, U2 39, U2 40, U2 41, U2 42, U2 43, U2 44, U2 45, U2 46, U2 47, U2 48, U2 49, U2 50, U2 51, U2 52, U2 53, U2 54, U2 55, U2 56, U2 57, U2 58, U2 59, U2 60, U2 61, U2 62, undef, undef].toArray, []⟩ ∧ (am2 = 2 - k) ∧ (k ≤ 2) ∧ (FndQ (linked ps (openQ vs true)) m.toNat ps.length a yu xu) ∧ (mo3 = true → ys0.length + xs0.length < yu.length + xu.length) ∧ (mo3 = false → yu = ys0 ∧ xu = xs0 ∧ shutE ps (openQ vs true) (inQ yu xu) i ∧ (1 ≤ k → okP (openQ vs true) (inQ yu xu) i x16 x16.fr) ∧ (2 ≤ k → okP (openQ vs true) (inQ yu xu) i x16 x16.to)) ∧ (wl2.heap[b2]? = some (.cells #[.int .i64 m, .slice A n c] 32 (0, 0))) ∧ (wl2.heap[b26]? = some (.cells #[.int .i64 x16.id, .int .i64 x16.fr, .int .i64 x16.to, .int .i64 x16.sz] 72 (0, 0))) ∧ (Fm A2_3 n2_3 c2_3) ∧ (Rd wl2 1 A2_3 n2_3 (intsV yu)) ∧ (Fm A2_4 n2_4 c2_4) ∧ (Rd wl2 1 A2_4 n2_4 (intsV xu)) ∧ (Below w.heap.size w wl2)) (2 - 0) ?_ ?_
      · exact ⟨0, yt, xt, mo2, A1_3, n1_3, c1_3, A1_4, n1_4, c1_4, (fun iU9 => [.agg #[.int .i64 m, .slice A n c], .slice A2 n2 c2, .bool true, .slice A1_3 n1_3 c1_3, .slice A1_4 n1_4 c1_4, .pointer (some ⟨b2, 0, none⟩), undef, undef, undef, undef, .slice none 0 0, .slice none 0 0, .bool mo2, .int .i64 ((i : Nat) : Int), .pointer (some ⟨b26, 0, none⟩), .int .i64 0, (U1 16), .bool true, (U14 18), (U14 19), (U14 20), (U14 21), .bool true, (U1 23), (U1 24), (U40 25), (U40 26), (U40 27), (U40 28), (U40 29), (U1 30), (U1 31), (U1 32), (U1 33), (U1 34), (U1 35), (U1 36), (U1 37), (U1 38), (U1 39), (U1 40), (U1 41), (U1 42), (U1 43), (U1 44), (U1 45), (U1 46), (U1 47), (U1 48), (U1 49), (U1 50), (U1 51), (U1 52), (U1 53), (U1 54), (U1 55), (U1 56), (U1 57), (U1 58), (U1 59), (U1 60), (U1 61), (U1 62), undef, undef].getD iU9 undef), (by kernel_rfl), rfl, (Nat.zero_le _), hf2, hmt2, (fun e => ⟨(hmf2 e).1, (hmf2 e).2.1, (hmf2 e).2.2, fun h => absurd h (by omega), fun h => absurd h (by omega)⟩), x6, x38, fm1_3, rd42, fm1_4, rd43, c41⟩
      rintro am2 aa2 wl2 K15 h15 ⟨k, yu, xu, mo3, A2_3, n2_3, c2_3, A2_4, n2_4, c2_4, U2, rfl, rfl, hk, hf3, hmt3, hmf3, x6, x38, fm2_3, rd2_3, fm2_4, rd2_4, c44⟩
      have hl2_3 := rd_ints_len rd2_3
      have hl2_4 := rd_ints_len rd2_4
      have hfl3 := hf3.len
      refine wp_seq_k (fun K16 h16 => ?_)
      refine wp_seq_k (fun K17 h17 => ?_)
      refine W.region_quiet [(0, false), (1, false)] (by kernel_rfl) ?_
      refine W.sq (v := .int .i64 ((k : Nat) : Int)) rfl (r_move rfl (by kernel_rfl)) (by kernel_rfl) rfl rfl ?_
      by_cases q45 : (((k : Nat) : Int) : Int) < (2 : Int)
      · refine W.sq (v := .bool true) rfl (r_lss (m := ((k : Nat) : Int)) (n := 2) rfl (by kernel_rfl) (by kernel_rfl) (decide_eq_true q45)) (by kernel_rfl) rfl rfl ?_
        refine W.sch_endU (fun U46 => [.agg #[.int .i64 m, .slice A n c], .slice A2 n2 c2, .bool true, .slice A2_3 n2_3 c2_3, .slice A2_4 n2_4 c2_4, .pointer (some ⟨b2, 0, none⟩), undef, undef, undef, undef, .slice none 0 0, .slice none 0 0, .bool mo3, .int .i64 ((i : Nat) : Int), .pointer (some ⟨b26, 0, none⟩), .int .i64 ((k : Nat) : Int), (U2 16), .bool true, (U14 18), (U14 19), (U14 20), (U14 21), .bool true, (U1 23), (U1 24), (U40 25), (U40 26), (U40 27), (U40 28), (U40 29), U46 30, .bool true, (U2 32), (U2 33), (U2 34), (U2 35), (U2 36), (U2 37), (U2 38), (U2 39), (U2 40), (U2 41), (U2 42), (U2 43), (U2 44), (U2 45), (U2 46), (U2 47), (U2 48), (U2 49), (U2 50), (U2 51), (U2 52), (U2 53), (U2 54), (U2 55), (U2 56), (U2 57), (U2 58), (U2 59), (U2 60), (U2 61), (U2 62), undef, undef]) (by kernel_rfl) (fun U46 => ?_)
        refine h17 _ _ ?_
        refine wp_cond_true (by kernel_rfl) ?_
        refine wp_skip ?_
        refine h16 _ _ ?_
        refine wp_seq_k (fun K18 h18 => ?_)
        refine wp_block ?_
        refine wp_seq_k (fun K19 h19 => ?_)
        refine W.region_plain (row := none) [(0, false), (1, false), (2, false), (3, false), (4, true), (5, false), (6, false), (7, true), (8, false)] (by kernel_rfl) ?_
        have s47 := SG.self wl2 none
        refine W.sq (v := .pointer (some ⟨b26, 1, none⟩)) rfl (r_field (k := 1) rfl (by kernel_rfl) (by kernel_rfl)) (by kernel_rfl) rfl rfl ?_
        refine W.sq (v := .int .i64 x16.fr) rfl (r_load rfl (by kernel_rfl) (by kernel_rfl) (sgS (blk_cell (j := 1) x38 (by kernel_rfl)) (by simp))) (by kernel_rfl) rfl rfl ?_
        refine W.sq (v := .pointer (some ⟨b26, 2, none⟩)) rfl (r_field (k := 2) rfl (by kernel_rfl) (by kernel_rfl)) (by kernel_rfl) rfl rfl ?_
        refine W.sq (v := .int .i64 x16.to) rfl (r_load rfl (by kernel_rfl) (by kernel_rfl) (sgS (blk_cell (j := 2) x38 (by kernel_rfl)) (by simp))) (by kernel_rfl) rfl rfl ?_
        refine W.sn (fun b => .slice (some ⟨b, 0, none⟩) 2 2) #[.int .i64 x16.fr, .int .i64 x16.to] 3 s47 rfl (by kernel_rfl) rfl (fun _ => by kernel_rfl) (fun b48 w49 hb50 k51 x52 s53 => ?_)
        have lo54 : w.heap.size ≤ b48 := by have := ((SG.belowR c44 s47 (fun kq e => by cases e))).size; omega
        have sp55 : Sp A2_3 n2_3 (some b48) := sp_new rd2_3 (by have := World.grownBy.size s47; have := hb50; omega)
        have sp56 : Sp A2_4 n2_4 (some b48) := sp_new rd2_4 (by have := World.grownBy.size s47; have := hb50; omega)
        have ne57 : b2 ≠ b48 := by have := blk_lt x6; have := World.grownBy.size s47; omega
        have ne58 : b26 ≠ b48 := by have := blk_lt x38; have := World.grownBy.size s47; omega
        refine W.sq (v := .int .i64 ((k : Nat) : Int)) rfl (r_move rfl (by kernel_rfl)) (by kernel_rfl) rfl rfl ?_
        have ho59 := own_blk (base := w.heap.size) (size := 1) (n := 2) x52 lo54 rfl (by omega)
        replace ho59 : World.ownsRow _ _ _ _ _ _ (intsV [x16.fr, x16.to]) := ho59
        have sp60 := sp_own (n' := 2) (c := 2) sp55
        have sp61 := sp_own (n' := 2) (c := 2) sp56
        have nb62 : Nb b2 (.slice (some ⟨b48, 0, none⟩) 2 2) := nb_new (by have := ne57; omega)
        have nb63 : Nb b26 (.slice (some ⟨b48, 0, none⟩) 2 2) := nb_new (by have := ne58; omega)
        have rd65 := own_rd ho59
        have hl66 := rd_ints_len rd65
        obtain ⟨x67, hx68⟩ := get_of (zs := [x16.fr, x16.to]) (k := k) (by have := hl66; omega)
        have hy2 := two_of hx68
        have hpx := hp x16 (List.mem_of_getElem? hx17)
        obtain ⟨b69, o70, hA71, hb72, hc73⟩ := Rd.elInt rd65 hx68
        refine W.sq (v := .pointer (some ⟨b69, o70 + k, none⟩)) rfl (r_idx1 (n := 2) (c := 2) (k := k) rfl (by kernel_rfl) hA71 (by kernel_rfl) (by kernel_rfl) (by have := hl66; omega)) (by kernel_rfl) rfl rfl ?_
        refine W.slq (v := .int .i64 x67) s53 rfl (r_load rfl (by kernel_rfl) (by kernel_rfl) (eqS hc73)) (by kernel_rfl) rfl ?_
        refine W.sq (v := .int .i64 x67) rfl (r_assign rfl (by kernel_rfl)) (by kernel_rfl) rfl rfl ?_
        refine W.sch_endU (fun U74 => [.agg #[.int .i64 m, .slice A n c], .slice A2 n2 c2, .bool true, .slice A2_3 n2_3 c2_3, .slice A2_4 n2_4 c2_4, .pointer (some ⟨b2, 0, none⟩), undef, undef, undef, undef, .slice none 0 0, .slice none 0 0, .bool mo3, .int .i64 ((i : Nat) : Int), .pointer (some ⟨b26, 0, none⟩), .int .i64 ((k : Nat) : Int), .int .i64 x67, .bool true, (U14 18), (U14 19), (U14 20), (U14 21), .bool true, (U1 23), (U1 24), (U40 25), (U40 26), (U40 27), (U40 28), (U40 29), (U46 30), .bool true, (U2 32), (U2 33), U74 34, U74 35, U74 36, U74 37, U74 38, U74 39, U74 40, U74 41, (U2 42), (U2 43), (U2 44), (U2 45), (U2 46), (U2 47), (U2 48), (U2 49), (U2 50), (U2 51), (U2 52), (U2 53), (U2 54), (U2 55), (U2 56), (U2 57), (U2 58), (U2 59), (U2 60), (U2 61), (U2 62), undef, undef]) (by kernel_rfl) (fun U74 => ?_)
        have x6 := SG.blk s53 x6 (by simp)
        have x38 := SG.blk s53 x38 (by simp)
        have c75 := (SG.belowR c44 s53 (fun kq e => by cases e))
        have rd76 := Rd.kept rd2_3 (SG.below s53)
        have rd77 := Rd.kept rd2_4 (SG.below s53)
        refine h19 _ _ ?_
        refine wp_seq_k (fun K20 h20 => ?_)
        refine wp_seq_k (fun K21 h21 => ?_)
        refine W.region_plain (row := none) [(0, false), (1, false), (2, false), (3, false), (4, false), (5, true), (6, false), (7, false), (8, false), (9, true), (10, false), (11, false), (12, true), (13, false), (14, false)] (by kernel_rfl) ?_
        have s78 := SG.self w49 none
        refine W.sq (v := .slice A2 n2 c2) rfl (r_move rfl (by kernel_rfl)) (by kernel_rfl) rfl rfl ?_
        refine W.sq (v := .pointer (some ⟨b26, 0, none⟩)) rfl (r_field0 rfl (by kernel_rfl) (by kernel_rfl)) (by kernel_rfl) rfl rfl ?_
        refine W.sq (v := .int .i64 x16.id) rfl (r_load rfl (by kernel_rfl) (by kernel_rfl) (sgS (blk_cell (j := 0) x38 (by kernel_rfl)) (by simp))) (by kernel_rfl) rfl rfl ?_
        refine W.sq (v := .int .i64 x67) rfl (r_move rfl (by kernel_rfl)) (by kernel_rfl) rfl rfl ?_
        refine W.sq (v := .bool true) rfl (r_move rfl (by kernel_rfl)) (by kernel_rfl) rfl rfl ?_
        refine W.sc (vs := [.slice A2 n2 c2, .int .i64 x16.id, .int .i64 x67, .bool true]) rfl rfl (by kernel_rfl) (by kernel_rfl) (by kernel_rfl) rfl (l4Blocked_true A2 n2 c2 vs x16.id x67 _ (Rd.kept hb (SG.belowR c75 s78 (fun kq e => by cases e))) (by omega)) ?_
        rintro e w80 ⟨rfl, b79⟩
        have s81 := SG.of_below s78 b79
        refine ⟨_, rfl, s81, ?_⟩
        rcases Bool.eq_false_or_eq_true (blocked vs x16.id x67 true) with q82 | q82
        · rw [q82]
          refine W.sq (v := .bool true) rfl (r_move rfl (by kernel_rfl)) (by kernel_rfl) rfl rfl ?_
          refine W.sk s81 rfl (by kernel_rfl) rfl rfl ?_
          refine W.sk s81 rfl (by kernel_rfl) rfl rfl ?_
          refine W.sk s81 rfl (by kernel_rfl) rfl rfl ?_
          refine W.sk s81 rfl (by kernel_rfl) rfl rfl ?_
          refine W.sk s81 rfl (by kernel_rfl) rfl rfl ?_
          refine W.sk s81 rfl (by kernel_rfl) rfl rfl ?_
          refine W.sk s81 rfl (by kernel_rfl) rfl rfl ?_
          refine W.sq (v := .bool true) rfl (r_pick (b := true) rfl (by kernel_rfl) (by kernel_rfl)) (by kernel_rfl) rfl rfl ?_
          refine W.sch_endU (fun U83 => [.agg #[.int .i64 m, .slice A n c], .slice A2 n2 c2, .bool true, .slice A2_3 n2_3 c2_3, .slice A2_4 n2_4 c2_4, .pointer (some ⟨b2, 0, none⟩), undef, undef, undef, undef, .slice none 0 0, .slice none 0 0, .bool mo3, .int .i64 ((i : Nat) : Int), .pointer (some ⟨b26, 0, none⟩), .int .i64 ((k : Nat) : Int), .int .i64 x67, .bool true, (U14 18), (U14 19), (U14 20), (U14 21), .bool true, (U1 23), (U1 24), (U40 25), (U40 26), (U40 27), (U40 28), (U40 29), (U46 30), .bool true, (U2 32), (U2 33), (U74 34), (U74 35), (U74 36), (U74 37), (U74 38), (U74 39), (U74 40), (U74 41), U83 42, U83 43, U83 44, U83 45, U83 46, U83 47, U83 48, undef, undef, undef, undef, undef, undef, undef, .bool true, (U2 57), (U2 58), (U2 59), (U2 60), (U2 61), (U2 62), undef, undef]) (by kernel_rfl) (fun U83 => ?_)
          have x6 := SG.blk s81 x6 (by simp)
          have x38 := SG.blk s81 x38 (by simp)
          have c84 := (SG.belowR c75 s81 (fun kq e => by cases e))
          have rd85 := Rd.kept rd76 (SG.below s81)
          have rd86 := Rd.kept rd77 (SG.below s81)
          have rd87 := Rd.kept rd65 (SG.below s81)
          refine h21 _ _ ?_
          refine wp_cond_true (by kernel_rfl) ?_
          refine wp_exit ?_
          refine h18 _ _ ?_
          refine W.region_quiet [(0, false), (1, false), (2, false)] (by kernel_rfl) ?_
          refine W.sq (v := .int .i64 ((k : Nat) : Int)) rfl (r_move rfl (by kernel_rfl)) (by kernel_rfl) rfl rfl ?_
          refine W.sq (v := .int .i64 ((k + 1 : Nat) : Int)) rfl (r_add (m := ((k : Nat) : Int)) (n := 1) (z := ((k + 1 : Nat) : Int)) rfl (by kernel_rfl) (by kernel_rfl) (by omega) (by omega)) (by kernel_rfl) rfl rfl ?_
          refine W.sq (v := .int .i64 ((k + 1 : Nat) : Int)) rfl (r_assign rfl (by kernel_rfl)) (by kernel_rfl) rfl rfl ?_
          refine W.sch_endU (fun U88 => [.agg #[.int .i64 m, .slice A n c], .slice A2 n2 c2, .bool true, .slice A2_3 n2_3 c2_3, .slice A2_4 n2_4 c2_4, .pointer (some ⟨b2, 0, none⟩), undef, undef, undef, undef, .slice none 0 0, .slice none 0 0, .bool mo3, .int .i64 ((i : Nat) : Int), .pointer (some ⟨b26, 0, none⟩), .int .i64 ((k + 1 : Nat) : Int), .int .i64 x67, .bool true, (U14 18), (U14 19), (U14 20), (U14 21), .bool true, (U1 23), (U1 24), (U40 25), (U40 26), (U40 27), (U40 28), (U40 29), (U46 30), .bool true, U88 32, U88 33, (U74 34), (U74 35), (U74 36), (U74 37), (U74 38), (U74 39), (U74 40), (U74 41), (U83 42), (U83 43), (U83 44), (U83 45), (U83 46), (U83 47), (U83 48), undef, undef, undef, undef, undef, undef, undef, .bool true, (U2 57), (U2 58), (U2 59), (U2 60), (U2 61), (U2 62), undef, undef]) (by kernel_rfl) (fun U88 => ?_)
          exact h15 _ _ _ (by omega : (2 - (k + 1)) < _) ⟨k + 1, yu, xu, mo3, A2_3, n2_3, c2_3, A2_4, n2_4, c2_4, (fun iU9 => [.agg #[.int .i64 m, .slice A n c], .slice A2 n2 c2, .bool true, .slice A2_3 n2_3 c2_3, .slice A2_4 n2_4 c2_4, .pointer (some ⟨b2, 0, none⟩), undef, undef, undef, undef, .slice none 0 0, .slice none 0 0, .bool mo3, .int .i64 ((i : Nat) : Int), .pointer (some ⟨b26, 0, none⟩), .int .i64 ((k + 1 : Nat) : Int), .int .i64 x67, .bool true, (U14 18), (U14 19), (U14 20), (U14 21), .bool true, (U1 23), (U1 24), (U40 25), (U40 26), (U40 27), (U40 28), (U40 29), (U46 30), .bool true, (U88 32), (U88 33), (U74 34), (U74 35), (U74 36), (U74 37), (U74 38), (U74 39), (U74 40), (U74 41), (U83 42), (U83 43), (U83 44), (U83 45), (U83 46), (U83 47), (U83 48), undef, undef, undef, undef, undef, undef, undef, .bool true, (U2 57), (U2 58), (U2 59), (U2 60), (U2 61), (U2 62), undef, undef].getD iU9 undef), (by kernel_rfl), rfl, (by omega), hf3, hmt3, (fun e => ⟨(hmf3 e).1, (hmf3 e).2.1, (hmf3 e).2.2.1, two_next hy2 (hmf3 e).2.2.2.1 (okP_shut (openQ_no q82))⟩), x6, x38, fm2_3, rd85, fm2_4, rd86, c84⟩
        · rw [q82]
          refine W.sq (v := .bool false) rfl (r_move rfl (by kernel_rfl)) (by kernel_rfl) rfl rfl ?_
          refine W.sq (v := .slice A2_3 n2_3 c2_3) rfl (r_move rfl (by kernel_rfl)) (by kernel_rfl) rfl rfl ?_
          refine W.sq (v := .int .i64 x67) rfl (r_move rfl (by kernel_rfl)) (by kernel_rfl) rfl rfl ?_
          refine W.sc (vs := [.slice A2_3 n2_3 c2_3, .int .i64 x67]) rfl rfl (by kernel_rfl) (by kernel_rfl) (by kernel_rfl) rfl (l1Has_any A2_3 n2_3 c2_3 yu x67 _ (Rd.kept rd76 (SG.below s81)) (by omega)) ?_
          rintro e w90 ⟨rfl, b89⟩
          have s91 := SG.of_below s81 b89
          refine ⟨_, rfl, s91, ?_⟩
          refine W.sq (v := .slice A2_4 n2_4 c2_4) rfl (r_move rfl (by kernel_rfl)) (by kernel_rfl) rfl rfl ?_
          refine W.sq (v := .int .i64 ((i : Nat) : Int)) rfl (r_move rfl (by kernel_rfl)) (by kernel_rfl) rfl rfl ?_
          refine W.sc (vs := [.slice A2_4 n2_4 c2_4, .int .i64 ((i : Nat) : Int)]) rfl rfl (by kernel_rfl) (by kernel_rfl) (by kernel_rfl) rfl (l1Has_any A2_4 n2_4 c2_4 xu ((i : Nat) : Int) _ (Rd.kept rd77 (SG.below s91)) (by omega)) ?_
          rintro e w93 ⟨rfl, b92⟩
          have s94 := SG.of_below s91 b92
          refine ⟨_, rfl, s94, ?_⟩
          by_cases q95 : (yu.contains x67) = (xu.contains ((i : Nat) : Int))
          · refine W.sq (v := .bool true) rfl (r_eqlB (m := (yu.contains x67)) (n := (xu.contains ((i : Nat) : Int))) rfl (by kernel_rfl) (by kernel_rfl) (by kernel_rfl) (beq_iff_eq.2 q95)) (by kernel_rfl) rfl rfl ?_
            refine W.sq (v := .bool true) rfl (r_pick (b := false) rfl (by kernel_rfl) (by kernel_rfl)) (by kernel_rfl) rfl rfl ?_
            refine W.sch_endU (fun U96 => [.agg #[.int .i64 m, .slice A n c], .slice A2 n2 c2, .bool true, .slice A2_3 n2_3 c2_3, .slice A2_4 n2_4 c2_4, .pointer (some ⟨b2, 0, none⟩), undef, undef, undef, undef, .slice none 0 0, .slice none 0 0, .bool mo3, .int .i64 ((i : Nat) : Int), .pointer (some ⟨b26, 0, none⟩), .int .i64 ((k : Nat) : Int), .int .i64 x67, .bool true, (U14 18), (U14 19), (U14 20), (U14 21), .bool true, (U1 23), (U1 24), (U40 25), (U40 26), (U40 27), (U40 28), (U40 29), (U46 30), .bool true, (U2 32), (U2 33), (U74 34), (U74 35), (U74 36), (U74 37), (U74 38), (U74 39), (U74 40), (U74 41), U96 42, U96 43, U96 44, U96 45, U96 46, U96 47, U96 48, U96 49, U96 50, U96 51, U96 52, U96 53, U96 54, U96 55, .bool true, (U2 57), (U2 58), (U2 59), (U2 60), (U2 61), (U2 62), undef, undef]) (by kernel_rfl) (fun U96 => ?_)
            have x6 := SG.blk s94 x6 (by simp)
            have x38 := SG.blk s94 x38 (by simp)
            have c97 := (SG.belowR c75 s94 (fun kq e => by cases e))
            have rd98 := Rd.kept rd76 (SG.below s94)
            have rd99 := Rd.kept rd77 (SG.below s94)
            have rd100 := Rd.kept rd65 (SG.below s94)
            refine h21 _ _ ?_
            refine wp_cond_true (by kernel_rfl) ?_
            refine wp_exit ?_
            refine h18 _ _ ?_
            refine W.region_quiet [(0, false), (1, false), (2, false)] (by kernel_rfl) ?_
            refine W.sq (v := .int .i64 ((k : Nat) : Int)) rfl (r_move rfl (by kernel_rfl)) (by kernel_rfl) rfl rfl ?_
            refine W.sq (v := .int .i64 ((k + 1 : Nat) : Int)) rfl (r_add (m := ((k : Nat) : Int)) (n := 1) (z := ((k + 1 : Nat) : Int)) rfl (by kernel_rfl) (by kernel_rfl) (by omega) (by omega)) (by kernel_rfl) rfl rfl ?_
            refine W.sq (v := .int .i64 ((k + 1 : Nat) : Int)) rfl (r_assign rfl (by kernel_rfl)) (by kernel_rfl) rfl rfl ?_
            refine W.sch_endU (fun U101 => [.agg #[.int .i64 m, .slice A n c], .slice A2 n2 c2, .bool true, .slice A2_3 n2_3 c2_3, .slice A2_4 n2_4 c2_4, .pointer (some ⟨b2, 0, none⟩), undef, undef, undef, undef, .slice none 0 0, .slice none 0 0, .bool mo3, .int .i64 ((i : Nat) : Int), .pointer (some ⟨b26, 0, none⟩), .int .i64 ((k + 1 : Nat) : Int), .int .i64 x67, .bool true, (U14 18), (U14 19), (U14 20), (U14 21), .bool true, (U1 23), (U1 24), (U40 25), (U40 26), (U40 27), (U40 28), (U40 29), (U46 30), .bool true, U101 32, U101 33, (U74 34), (U74 35), (U74 36), (U74 37), (U74 38), (U74 39), (U74 40), (U74 41), (U96 42), (U96 43), (U96 44), (U96 45), (U96 46), (U96 47), (U96 48), (U96 49), (U96 50), (U96 51), (U96 52), (U96 53), (U96 54), (U96 55), .bool true, (U2 57), (U2 58), (U2 59), (U2 60), (U2 61), (U2 62), undef, undef]) (by kernel_rfl) (fun U101 => ?_)
            exact h15 _ _ _ (by omega : (2 - (k + 1)) < _) ⟨k + 1, yu, xu, mo3, A2_3, n2_3, c2_3, A2_4, n2_4, c2_4, (fun iU9 => [.agg #[.int .i64 m, .slice A n c], .slice A2 n2 c2, .bool true, .slice A2_3 n2_3 c2_3, .slice A2_4 n2_4 c2_4, .pointer (some ⟨b2, 0, none⟩), undef, undef, undef, undef, .slice none 0 0, .slice none 0 0, .bool mo3, .int .i64 ((i : Nat) : Int), .pointer (some ⟨b26, 0, none⟩), .int .i64 ((k + 1 : Nat) : Int), .int .i64 x67, .bool true, (U14 18), (U14 19), (U14 20), (U14 21), .bool true, (U1 23), (U1 24), (U40 25), (U40 26), (U40 27), (U40 28), (U40 29), (U46 30), .bool true, (U101 32), (U101 33), (U74 34), (U74 35), (U74 36), (U74 37), (U74 38), (U74 39), (U74 40), (U74 41), (U96 42), (U96 43), (U96 44), (U96 45), (U96 46), (U96 47), (U96 48), (U96 49), (U96 50), (U96 51), (U96 52), (U96 53), (U96 54), (U96 55), .bool true, (U2 57), (U2 58), (U2 59), (U2 60), (U2 61), (U2 62), undef, undef].getD iU9 undef), (by kernel_rfl), rfl, (by omega), hf3, hmt3, (fun e => ⟨(hmf3 e).1, (hmf3 e).2.1, (hmf3 e).2.2.1, two_next hy2 (hmf3 e).2.2.2.1 (okQ_same (m := m.toNat) (by omega) hf3.b1 (by omega) q95)⟩), x6, x38, fm2_3, rd98, fm2_4, rd99, c97⟩
          · refine W.sq (v := .bool false) rfl (r_eqlB (m := (yu.contains x67)) (n := (xu.contains ((i : Nat) : Int))) rfl (by kernel_rfl) (by kernel_rfl) (by kernel_rfl) (beq_eq_false_iff_ne.2 q95)) (by kernel_rfl) rfl rfl ?_
            refine W.sq (v := .bool false) rfl (r_pick (b := false) rfl (by kernel_rfl) (by kernel_rfl)) (by kernel_rfl) rfl rfl ?_
            refine W.sch_endU (fun U102 => [.agg #[.int .i64 m, .slice A n c], .slice A2 n2 c2, .bool true, .slice A2_3 n2_3 c2_3, .slice A2_4 n2_4 c2_4, .pointer (some ⟨b2, 0, none⟩), undef, undef, undef, undef, .slice none 0 0, .slice none 0 0, .bool mo3, .int .i64 ((i : Nat) : Int), .pointer (some ⟨b26, 0, none⟩), .int .i64 ((k : Nat) : Int), .int .i64 x67, .bool true, (U14 18), (U14 19), (U14 20), (U14 21), .bool true, (U1 23), (U1 24), (U40 25), (U40 26), (U40 27), (U40 28), (U40 29), (U46 30), .bool true, (U2 32), (U2 33), (U74 34), (U74 35), (U74 36), (U74 37), (U74 38), (U74 39), (U74 40), (U74 41), U102 42, U102 43, U102 44, U102 45, U102 46, U102 47, U102 48, U102 49, U102 50, U102 51, U102 52, U102 53, U102 54, U102 55, .bool false, (U2 57), (U2 58), (U2 59), (U2 60), (U2 61), (U2 62), undef, undef]) (by kernel_rfl) (fun U102 => ?_)
            have x6 := SG.blk s94 x6 (by simp)
            have x38 := SG.blk s94 x38 (by simp)
            have c103 := (SG.belowR c75 s94 (fun kq e => by cases e))
            have rd104 := Rd.kept rd76 (SG.below s94)
            have rd105 := Rd.kept rd77 (SG.below s94)
            have rd106 := Rd.kept rd65 (SG.below s94)
            refine h21 _ _ ?_
            refine wp_cond_false (by kernel_rfl) ?_
            refine wp_skip ?_
            refine h20 _ _ ?_
            refine wp_seq_k (fun K22 h22 => ?_)
            refine W.region_plain (row := none) [(0, false), (1, false), (2, true), (3, false)] (by kernel_rfl) ?_
            have s107 := SG.self w93 none
            refine W.sq (v := .slice A2_3 n2_3 c2_3) rfl (r_move rfl (by kernel_rfl)) (by kernel_rfl) rfl rfl ?_
            refine W.sq (v := .int .i64 x67) rfl (r_move rfl (by kernel_rfl)) (by kernel_rfl) rfl rfl ?_
            refine W.sc (vs := [.slice A2_3 n2_3 c2_3, .int .i64 x67]) rfl rfl (by kernel_rfl) (by kernel_rfl) (by kernel_rfl) rfl (l1Put_any A2_3 n2_3 c2_3 yu x67 _ (Rd.kept rd104 (SG.below s107)) fm2_3 (by have h7 := hl2_3; first | omega)) ?_
            rintro e w116 ⟨A108, n109, c110, rfl, rd111, fm112, b115⟩
            have s117 := SG.of_below s107 b115
            refine ⟨_, rfl, s117, ?_⟩
            have hl113 := rd_ints_len rd111
            refine W.sq (v := .slice A108 n109 c110) rfl (r_assign rfl (by kernel_rfl)) (by kernel_rfl) rfl rfl ?_
            refine W.sch_endU (fun U118 => [.agg #[.int .i64 m, .slice A n c], .slice A2 n2 c2, .bool true, .slice A108 n109 c110, .slice A2_4 n2_4 c2_4, .pointer (some ⟨b2, 0, none⟩), undef, undef, undef, undef, .slice none 0 0, .slice none 0 0, .bool mo3, .int .i64 ((i : Nat) : Int), .pointer (some ⟨b26, 0, none⟩), .int .i64 ((k : Nat) : Int), .int .i64 x67, .bool true, (U14 18), (U14 19), (U14 20), (U14 21), .bool true, (U1 23), (U1 24), (U40 25), (U40 26), (U40 27), (U40 28), (U40 29), (U46 30), .bool true, (U2 32), (U2 33), (U74 34), (U74 35), (U74 36), (U74 37), (U74 38), (U74 39), (U74 40), (U74 41), (U102 42), (U102 43), (U102 44), (U102 45), (U102 46), (U102 47), (U102 48), (U102 49), (U102 50), (U102 51), (U102 52), (U102 53), (U102 54), (U102 55), .bool false, U118 57, U118 58, U118 59, (U2 60), (U2 61), (U2 62), undef, undef]) (by kernel_rfl) (fun U118 => ?_)
            have x6 := SG.blk s117 x6 (by simp)
            have x38 := SG.blk s117 x38 (by simp)
            have c119 := (SG.belowR c103 s117 (fun kq e => by cases e))
            have rd120 := Rd.kept rd104 (SG.below s117)
            have rd121 := Rd.kept rd105 (SG.below s117)
            have rd122 := Rd.kept rd106 (SG.below s117)
            refine h22 _ _ ?_
            refine wp_seq_k (fun K23 h23 => ?_)
            refine W.region_plain (row := none) [(0, false), (1, false), (2, true), (3, false)] (by kernel_rfl) ?_
            have s123 := SG.self w116 none
            refine W.sq (v := .slice A2_4 n2_4 c2_4) rfl (r_move rfl (by kernel_rfl)) (by kernel_rfl) rfl rfl ?_
            refine W.sq (v := .int .i64 ((i : Nat) : Int)) rfl (r_move rfl (by kernel_rfl)) (by kernel_rfl) rfl rfl ?_
            refine W.sc (vs := [.slice A2_4 n2_4 c2_4, .int .i64 ((i : Nat) : Int)]) rfl rfl (by kernel_rfl) (by kernel_rfl) (by kernel_rfl) rfl (l1Put_any A2_4 n2_4 c2_4 xu ((i : Nat) : Int) _ (Rd.kept rd121 (SG.below s123)) fm2_4 (by have h7 := hl2_4; first | omega)) ?_
            rintro e w132 ⟨A124, n125, c126, rfl, rd127, fm128, b131⟩
            have s133 := SG.of_below s123 b131
            refine ⟨_, rfl, s133, ?_⟩
            have hl129 := rd_ints_len rd127
            refine W.sq (v := .slice A124 n125 c126) rfl (r_assign rfl (by kernel_rfl)) (by kernel_rfl) rfl rfl ?_
            refine W.sch_endU (fun U134 => [.agg #[.int .i64 m, .slice A n c], .slice A2 n2 c2, .bool true, .slice A108 n109 c110, .slice A124 n125 c126, .pointer (some ⟨b2, 0, none⟩), undef, undef, undef, undef, .slice none 0 0, .slice none 0 0, .bool mo3, .int .i64 ((i : Nat) : Int), .pointer (some ⟨b26, 0, none⟩), .int .i64 ((k : Nat) : Int), .int .i64 x67, .bool true, (U14 18), (U14 19), (U14 20), (U14 21), .bool true, (U1 23), (U1 24), (U40 25), (U40 26), (U40 27), (U40 28), (U40 29), (U46 30), .bool true, (U2 32), (U2 33), (U74 34), (U74 35), (U74 36), (U74 37), (U74 38), (U74 39), (U74 40), (U74 41), (U102 42), (U102 43), (U102 44), (U102 45), (U102 46), (U102 47), (U102 48), (U102 49), (U102 50), (U102 51), (U102 52), (U102 53), (U102 54), (U102 55), .bool false, (U118 57), (U118 58), (U118 59), U134 60, U134 61, U134 62, undef, undef]) (by kernel_rfl) (fun U134 => ?_)
            have x6 := SG.blk s133 x6 (by simp)
            have x38 := SG.blk s133 x38 (by simp)
            have c135 := (SG.belowR c119 s133 (fun kq e => by cases e))
            have rd136 := Rd.kept rd120 (SG.below s133)
            have rd137 := Rd.kept rd121 (SG.below s133)
            have rd138 := Rd.kept rd122 (SG.below s133)
            have rd139 := Rd.kept rd111 (SG.below s133)
            refine h23 _ _ ?_
            refine W.region_quiet [(0, false)] (by kernel_rfl) ?_
            refine W.sq (v := .bool true) rfl (r_assign rfl (by kernel_rfl)) (by kernel_rfl) rfl rfl ?_
            refine W.sch_end (l' := [.agg #[.int .i64 m, .slice A n c], .slice A2 n2 c2, .bool true, .slice A108 n109 c110, .slice A124 n125 c126, .pointer (some ⟨b2, 0, none⟩), undef, undef, undef, undef, .slice none 0 0, .slice none 0 0, .bool true, .int .i64 ((i : Nat) : Int), .pointer (some ⟨b26, 0, none⟩), .int .i64 ((k : Nat) : Int), .int .i64 x67, .bool true, (U14 18), (U14 19), (U14 20), (U14 21), .bool true, (U1 23), (U1 24), (U40 25), (U40 26), (U40 27), (U40 28), (U40 29), (U46 30), .bool true, (U2 32), (U2 33), (U74 34), (U74 35), (U74 36), (U74 37), (U74 38), (U74 39), (U74 40), (U74 41), (U102 42), (U102 43), (U102 44), (U102 45), (U102 46), (U102 47), (U102 48), (U102 49), (U102 50), (U102 51), (U102 52), (U102 53), (U102 54), (U102 55), .bool false, (U118 57), (U118 58), (U118 59), (U134 60), (U134 61), (U134 62), undef, undef]) (by kernel_rfl) ?_
            refine h18 _ _ ?_
            refine W.region_quiet [(0, false), (1, false), (2, false)] (by kernel_rfl) ?_
            refine W.sq (v := .int .i64 ((k : Nat) : Int)) rfl (r_move rfl (by kernel_rfl)) (by kernel_rfl) rfl rfl ?_
            refine W.sq (v := .int .i64 ((k + 1 : Nat) : Int)) rfl (r_add (m := ((k : Nat) : Int)) (n := 1) (z := ((k + 1 : Nat) : Int)) rfl (by kernel_rfl) (by kernel_rfl) (by omega) (by omega)) (by kernel_rfl) rfl rfl ?_
            refine W.sq (v := .int .i64 ((k + 1 : Nat) : Int)) rfl (r_assign rfl (by kernel_rfl)) (by kernel_rfl) rfl rfl ?_
            refine W.sch_endU (fun U140 => [.agg #[.int .i64 m, .slice A n c], .slice A2 n2 c2, .bool true, .slice A108 n109 c110, .slice A124 n125 c126, .pointer (some ⟨b2, 0, none⟩), undef, undef, undef, undef, .slice none 0 0, .slice none 0 0, .bool true, .int .i64 ((i : Nat) : Int), .pointer (some ⟨b26, 0, none⟩), .int .i64 ((k + 1 : Nat) : Int), .int .i64 x67, .bool true, (U14 18), (U14 19), (U14 20), (U14 21), .bool true, (U1 23), (U1 24), (U40 25), (U40 26), (U40 27), (U40 28), (U40 29), (U46 30), .bool true, U140 32, U140 33, (U74 34), (U74 35), (U74 36), (U74 37), (U74 38), (U74 39), (U74 40), (U74 41), (U102 42), (U102 43), (U102 44), (U102 45), (U102 46), (U102 47), (U102 48), (U102 49), (U102 50), (U102 51), (U102 52), (U102 53), (U102 54), (U102 55), .bool false, (U118 57), (U118 58), (U118 59), (U134 60), (U134 61), (U134 62), undef, undef]) (by kernel_rfl) (fun U140 => ?_)
            exact h15 _ _ _ (by omega : (2 - (k + 1)) < _) ⟨k + 1, putL yu x67, putL xu (i : Int), true, A108, n109, c110, A124, n125, c126, (fun iU9 => [.agg #[.int .i64 m, .slice A n c], .slice A2 n2 c2, .bool true, .slice A108 n109 c110, .slice A124 n125 c126, .pointer (some ⟨b2, 0, none⟩), undef, undef, undef, undef, .slice none 0 0, .slice none 0 0, .bool true, .int .i64 ((i : Nat) : Int), .pointer (some ⟨b26, 0, none⟩), .int .i64 ((k + 1 : Nat) : Int), .int .i64 x67, .bool true, (U14 18), (U14 19), (U14 20), (U14 21), .bool true, (U1 23), (U1 24), (U40 25), (U40 26), (U40 27), (U40 28), (U40 29), (U46 30), .bool true, (U140 32), (U140 33), (U74 34), (U74 35), (U74 36), (U74 37), (U74 38), (U74 39), (U74 40), (U74 41), (U102 42), (U102 43), (U102 44), (U102 45), (U102 46), (U102 47), (U102 48), (U102 49), (U102 50), (U102 51), (U102 52), (U102 53), (U102 54), (U102 55), .bool false, (U118 57), (U118 58), (U118 59), (U134 60), (U134 61), (U134 62), undef, undef].getD iU9 undef), (by kernel_rfl), rfl, (by omega), (hf3.put (by omega) hx17 (by omega) (by omega) (openQ_yes q82) q95), (fun _ => by have h9 := put2_len2 q95; rcases Bool.eq_false_or_eq_true mo3 with e | e <;> first | (have h8 := hmt3 e; omega) | (have h8 := hmf3 e; rw [h8.1, h8.2.1] at h9; rw [h8.1, h8.2.1]; exact h9)), (fun e => by cases e), x6, x38, fm112, rd139, fm128, rd127, c135⟩
      · refine W.sq (v := .bool false) rfl (r_lss (m := ((k : Nat) : Int)) (n := 2) rfl (by kernel_rfl) (by kernel_rfl) (decide_eq_false q45)) (by kernel_rfl) rfl rfl ?_
        refine W.sch_endU (fun U141 => [.agg #[.int .i64 m, .slice A n c], .slice A2 n2 c2, .bool true, .slice A2_3 n2_3 c2_3, .slice A2_4 n2_4 c2_4, .pointer (some ⟨b2, 0, none⟩), undef, undef, undef, undef, .slice none 0 0, .slice none 0 0, .bool mo3, .int .i64 ((i : Nat) : Int), .pointer (some ⟨b26, 0, none⟩), .int .i64 ((k : Nat) : Int), (U2 16), .bool true, (U14 18), (U14 19), (U14 20), (U14 21), .bool true, (U1 23), (U1 24), (U40 25), (U40 26), (U40 27), (U40 28), (U40 29), U141 30, .bool false, (U2 32), (U2 33), (U2 34), (U2 35), (U2 36), (U2 37), (U2 38), (U2 39), (U2 40), (U2 41), (U2 42), (U2 43), (U2 44), (U2 45), (U2 46), (U2 47), (U2 48), (U2 49), (U2 50), (U2 51), (U2 52), (U2 53), (U2 54), (U2 55), (U2 56), (U2 57), (U2 58), (U2 59), (U2 60), (U2 61), (U2 62), undef, undef]) (by kernel_rfl) (fun U141 => ?_)
        refine h17 _ _ ?_
        refine wp_cond_false (by kernel_rfl) ?_
        refine wp_exit ?_
        refine h12 _ _ ?_
        refine W.region_quiet [(0, false), (1, false), (2, false)] (by kernel_rfl) ?_
        refine W.sq (v := .int .i64 ((i : Nat) : Int)) rfl (r_move rfl (by kernel_rfl)) (by kernel_rfl) rfl rfl ?_
        refine W.sq (v := .int .i64 ((i + 1 : Nat) : Int)) rfl (r_add (m := ((i : Nat) : Int)) (n := 1) (z := ((i + 1 : Nat) : Int)) rfl (by kernel_rfl) (by kernel_rfl) (by omega) (by omega)) (by kernel_rfl) rfl rfl ?_
        refine W.sq (v := .int .i64 ((i + 1 : Nat) : Int)) rfl (r_assign rfl (by kernel_rfl)) (by kernel_rfl) rfl rfl ?_
        refine W.sch_endU (fun U142 => [.agg #[.int .i64 m, .slice A n c], .slice A2 n2 c2, .bool true, .slice A2_3 n2_3 c2_3, .slice A2_4 n2_4 c2_4, .pointer (some ⟨b2, 0, none⟩), undef, undef, undef, undef, .slice none 0 0, .slice none 0 0, .bool mo3, .int .i64 ((i + 1 : Nat) : Int), .pointer (some ⟨b26, 0, none⟩), .int .i64 ((k : Nat) : Int), (U2 16), .bool true, (U14 18), (U14 19), (U14 20), (U14 21), .bool true, U142 23, U142 24, (U40 25), (U40 26), (U40 27), (U40 28), (U40 29), (U141 30), .bool false, (U2 32), (U2 33), (U2 34), (U2 35), (U2 36), (U2 37), (U2 38), (U2 39), (U2 40), (U2 41), (U2 42), (U2 43), (U2 44), (U2 45), (U2 46), (U2 47), (U2 48), (U2 49), (U2 50), (U2 51), (U2 52), (U2 53), (U2 54), (U2 55), (U2 56), (U2 57), (U2 58), (U2 59), (U2 60), (U2 61), (U2 62), undef, undef]) (by kernel_rfl) (fun U142 => ?_)
        exact h9 _ _ _ (by omega : (n - (i + 1)) < _) ⟨i + 1, yu, xu, mo3, A2_3, n2_3, c2_3, A2_4, n2_4, c2_4, (fun iU9 => [.agg #[.int .i64 m, .slice A n c], .slice A2 n2 c2, .bool true, .slice A2_3 n2_3 c2_3, .slice A2_4 n2_4 c2_4, .pointer (some ⟨b2, 0, none⟩), undef, undef, undef, undef, .slice none 0 0, .slice none 0 0, .bool mo3, .int .i64 ((i + 1 : Nat) : Int), .pointer (some ⟨b26, 0, none⟩), .int .i64 ((k : Nat) : Int), (U2 16), .bool true, (U14 18), (U14 19), (U14 20), (U14 21), .bool true, (U142 23), (U142 24), (U40 25), (U40 26), (U40 27), (U40 28), (U40 29), (U141 30), .bool false, (U2 32), (U2 33), (U2 34), (U2 35), (U2 36), (U2 37), (U2 38), (U2 39), (U2 40), (U2 41), (U2 42), (U2 43), (U2 44), (U2 45), (U2 46), (U2 47), (U2 48), (U2 49), (U2 50), (U2 51), (U2 52), (U2 53), (U2 54), (U2 55), (U2 56), (U2 57), (U2 58), (U2 59), (U2 60), (U2 61), (U2 62), undef, undef].getD iU9 undef), (by kernel_rfl), rfl, (by omega), hf3, hmt3, (fun e => ⟨(hmf3 e).1, (hmf3 e).2.1, (hmf3 e).2.2.1.next hx17 ((hmf3 e).2.2.2.1 (by omega)) ((hmf3 e).2.2.2.2 (by omega))⟩), x6, fm2_3, rd2_3, fm2_4, rd2_4, c44⟩
    · refine W.sq (v := .bool false) rfl (r_lss (m := ((i : Nat) : Int)) (n := ((n : Nat) : Int)) rfl (by kernel_rfl) (by kernel_rfl) (decide_eq_false q13)) (by kernel_rfl) rfl rfl ?_
      refine W.sch_endU (fun U143 => [.agg #[.int .i64 m, .slice A n c], .slice A2 n2 c2, .bool true, .slice A1_3 n1_3 c1_3, .slice A1_4 n1_4 c1_4, .pointer (some ⟨b2, 0, none⟩), undef, undef, undef, undef, .slice none 0 0, .slice none 0 0, .bool mo2, .int .i64 ((i : Nat) : Int), (U1 14), (U1 15), (U1 16), .bool true, U143 18, U143 19, U143 20, U143 21, .bool false, (U1 23), (U1 24), (U1 25), (U1 26), (U1 27), (U1 28), (U1 29), (U1 30), (U1 31), (U1 32), (U1 33), (U1 34), (U1 35), (U1 36), (U1 37), (U1 38), (U1 39), (U1 40), (U1 41), (U1 42), (U1 43), (U1 44), (U1 45), (U1 46), (U1 47), (U1 48), (U1 49), (U1 50), (U1 51), (U1 52), (U1 53), (U1 54), (U1 55), (U1 56), (U1 57), (U1 58), (U1 59), (U1 60), (U1 61), (U1 62), undef, undef]) (by kernel_rfl) (fun U143 => ?_)
      refine h11 _ _ ?_
      refine wp_cond_false (by kernel_rfl) ?_
      refine wp_exit ?_
      exact h4 _ _ _ (by rcases Bool.eq_false_or_eq_true mo2 with e | e <;> rw [e] <;> simp only [Bool.toNat_true, Bool.toNat_false, qmo] <;> first | (have h9 := hmt2 e; omega) | (rw [(hmf2 e).1, (hmf2 e).2.1]; omega) : (2 * (18 - yt.length - xt.length) + mo2.toNat) < _) ⟨yt, xt, mo2, A1_3, n1_3, c1_3, A1_4, n1_4, c1_4, (fun iU9 => [.agg #[.int .i64 m, .slice A n c], .slice A2 n2 c2, .bool true, .slice A1_3 n1_3 c1_3, .slice A1_4 n1_4 c1_4, .pointer (some ⟨b2, 0, none⟩), undef, undef, undef, undef, .slice none 0 0, .slice none 0 0, .bool mo2, .int .i64 ((i : Nat) : Int), (U1 14), (U1 15), (U1 16), .bool true, (U143 18), (U143 19), (U143 20), (U143 21), .bool false, (U1 23), (U1 24), (U1 25), (U1 26), (U1 27), (U1 28), (U1 29), (U1 30), (U1 31), (U1 32), (U1 33), (U1 34), (U1 35), (U1 36), (U1 37), (U1 38), (U1 39), (U1 40), (U1 41), (U1 42), (U1 43), (U1 44), (U1 45), (U1 46), (U1 47), (U1 48), (U1 49), (U1 50), (U1 51), (U1 52), (U1 53), (U1 54), (U1 55), (U1 56), (U1 57), (U1 58), (U1 59), (U1 60), (U1 61), (U1 62), undef, undef].getD iU9 undef), (by kernel_rfl), rfl, hf2, (fun e => by have h9 := (hmf2 e).2.2; rw [show i = ps.length by omega] at h9; exact h9), x6, fm1_3, rd1_3, fm1_4, rd1_4, c12⟩
  · rw [q11]
    have qmo := q11
    refine wp_cond_false (by kernel_rfl) ?_
    refine wp_exit ?_
    refine h2 _ _ ?_
    refine wp_seq_k (fun K24 h24 => ?_)
    refine W.region_quiet [(0, false), (1, false), (2, false), (3, false)] (by kernel_rfl) ?_
    refine W.sq (v := .slice A0_3 n0_3 c0_3) rfl (r_move rfl (by kernel_rfl)) (by kernel_rfl) rfl rfl ?_
    refine W.sq (v := .slice A0_4 n0_4 c0_4) rfl (r_move rfl (by kernel_rfl)) (by kernel_rfl) rfl rfl ?_
    refine W.sq (v := .slice A0_3 n0_3 c0_3) rfl (r_assign rfl (by kernel_rfl)) (by kernel_rfl) rfl rfl ?_
    refine W.sq (v := .slice A0_4 n0_4 c0_4) rfl (r_assign rfl (by kernel_rfl)) (by kernel_rfl) rfl rfl ?_
    refine W.sch_endU (fun U144 => [.agg #[.int .i64 m, .slice A n c], .slice A2 n2 c2, .bool true, .slice A0_3 n0_3 c0_3, .slice A0_4 n0_4 c0_4, .pointer (some ⟨b2, 0, none⟩), undef, undef, undef, undef, .slice A0_3 n0_3 c0_3, .slice A0_4 n0_4 c0_4, .bool false, (U0 13), (U0 14), (U0 15), (U0 16), .bool false, (U0 18), (U0 19), (U0 20), (U0 21), (U0 22), (U0 23), (U0 24), (U0 25), (U0 26), (U0 27), (U0 28), (U0 29), (U0 30), (U0 31), (U0 32), (U0 33), (U0 34), (U0 35), (U0 36), (U0 37), (U0 38), (U0 39), (U0 40), (U0 41), (U0 42), (U0 43), (U0 44), (U0 45), (U0 46), (U0 47), (U0 48), (U0 49), (U0 50), (U0 51), (U0 52), (U0 53), (U0 54), (U0 55), (U0 56), (U0 57), (U0 58), (U0 59), (U0 60), (U0 61), (U0 62), U144 63, U144 64]) (by kernel_rfl) (fun U144 => ?_)
    refine h24 _ _ ?_
    refine wp_ret ?_
    try simp only [Exit.then]
    refine ret2 (v := .slice A0_3 n0_3 c0_3) (x := .slice A0_4 n0_4 c0_4) rfl (by kernel_rfl) (by kernel_rfl) ?_
    have e9 := hf.fin (by omega) (hsh qmo)
    exact ⟨_, _, _, _, _, _, rfl, (by rw [← e9.1]; exact rd0_3), fm0_3, (by rw [← e9.2]; exact rd0_4), fm0_4, c10⟩

end Go.Proofs.Ytnfmdkbelbppdaa
