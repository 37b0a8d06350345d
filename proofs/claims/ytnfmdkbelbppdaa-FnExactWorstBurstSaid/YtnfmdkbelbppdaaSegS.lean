/- What is connected with an element: the reference's lists. -/
import Derived.Test.YtnfmdkbelbppdaaSegI
namespace Go.Proofs.Ytnfmdkbelbppdaa
open Go.RowKit
set_option linter.unusedVariables false
set_option linter.unusedSimpArgs false

theorem openQ_no {vs : List Vv} {only : Bool} {p : Pp} {v : Int} (h : blocked vs p.id v only = true) : openQ vs only p v = false := by unfold openQ; rw [h]; rfl
theorem openQ_yes {vs : List Vv} {only : Bool} {p : Pp} {v : Int} (h : blocked vs p.id v only = false) : openQ vs only p v = true := by unfold openQ; rw [h]; rfl

set_option maxRecDepth 100000 in
set_option maxHeartbeats 1000000 in
theorem l4Spread_false (m : Int) (A : Option Addr) (n c : Nat) (ps : List Pp) (A2 : Option Addr) (n2 c2 : Nat) (vs : List Vv) (a : Int) (A3 : Option Addr) (n3 c3 : Nat) (ys : List Int) (A4 : Option Addr) (n4 c4 : Nat) (xs : List Int) (w : World) (ha : Rd w 4 A n (pipesV ps)) (hb : Rd w 4 A2 n2 (valvesV vs)) (hn : n ≤ 1048576) (hn2 : n2 ≤ 1048576) (hp : pipesIn ps m.toNat) (hm : 1 ≤ m ∧ m ≤ 8) (hlen10 : ps.length ≤ 10) (hy : Rd w 1 A3 n3 (intsV ys)) (hfy : Fm A3 n3 c3) (hx : Rd w 1 A4 n4 (intsV xs)) (hfx : Fm A4 n4 c4) (hq0 : FndQ (linked ps (openQ vs false)) m.toNat ps.length a ys xs) :
    Calls Try.prog 112 #[.agg #[.int .i64 m, .slice A n c], .slice A2 n2 c2, .bool false, .slice A3 n3 c3, .slice A4 n4 c4] w fun e w' => ∃ A5 n5 c5 A6 n6 c6, e = .returned (.tuple #[.slice A5 n5 c5, .slice A6 n6 c6]) ∧ Rd w' 1 A5 n5 (intsV (nodesL (linked ps (openQ vs false)) m.toNat a true)) ∧ Fm A5 n5 c5 ∧ Rd w' 1 A6 n6 (intsV (idxL (linked ps (openQ vs false)) ps.length a true)) ∧ Fm A6 n6 c6 ∧ Below w.heap.size w w' := by
  have hl := rd_pipes_len ha
  have hl2 := rd_valves_len hb
  have hly := rd_ints_len hy
  have hlx := rd_ints_len hx
  have hfl0 := hq0.len
  go_enter Try.func112, Try.ntmps112
  refine wp_seq_k (fun K1 h1 => ?_)
  refine W.region_plain (row := none) [(0, true), (1, false), (2, false)] (by kernel_rfl) ?_
  have s1 := SG.self w none
  refine W.sn (fun b => .pointer (some ⟨b, 0, none⟩)) #[.int .i64 m, .slice A n c] 32 s1 rfl (by kernel_rfl) rfl (fun _ => by kernel_rfl) (fun b2 w3 hb4 k5 x6 s7 => ?_)
  have lo8 : w.heap.size ≤ b2 := by have := ((SG.belowR (Below.refl _ _) s1 (fun kq e => by cases e))).size; omega
  refine W.as (v := .slice none 0 0) (h := ?_)
  refine W.as (v := .slice none 0 0) (h := ?_)
  refine W.endF 65 [(0, .agg #[.int .i64 m, .slice A n c]), (1, .slice A2 n2 c2), (2, .bool false), (3, .slice A3 n3 c3), (4, .slice A4 n4 c4), (5, .pointer (some ⟨b2, 0, none⟩)), (10, .slice none 0 0), (11, .slice none 0 0)] (fun U9 => ?_)
  have c10 := (SG.belowR (Below.refl _ _) s7 (fun kq e => by cases e))
  refine h1 _ _ ?_
  refine wp_seq_k (fun K2 h2 => ?_)
  refine wp_seq_k (fun K3 h3 => ?_)
  refine W.region_quiet [(0, false)] (by kernel_rfl) ?_
  refine W.as (v := .bool true) (h := ?_)
  refine W.endF 65 [(0, .agg #[.int .i64 m, .slice A n c]), (1, .slice A2 n2 c2), (2, .bool false), (3, .slice A3 n3 c3), (4, .slice A4 n4 c4), (5, .pointer (some ⟨b2, 0, none⟩)), (10, .slice none 0 0), (11, .slice none 0 0), (12, .bool true)] (fun U11 => ?_)
  refine h3 _ _ ?_
  refine wp_block ?_
  refine loopK (fun am0 aa0 wl0 => ∃ (ys0 : List Int) (xs0 : List Int) (mo : Bool) (A0_3 : Option Addr) (n0_3 : Nat) (c0_3 : Nat) (A0_4 : Option Addr) (n0_4 : Nat) (c0_4 : Nat) (U0 : Nat → Value), aa0 = ⟨(fr U0 [(0, .agg #[.int .i64 m, .slice A n c]), (1, .slice A2 n2 c2), (2, .bool false), (3, .slice A0_3 n0_3 c0_3), (4, .slice A0_4 n0_4 c0_4), (5, .pointer (some ⟨b2, 0, none⟩)), (10, .slice none 0 0), (11, .slice none 0 0), (12, .bool mo)] 65 0).toArray, []⟩ ∧ (am0 = 2 * (18 - ys0.length - xs0.length) + mo.toNat) ∧ (FndQ (linked ps (openQ vs false)) m.toNat ps.length a ys0 xs0) ∧ (mo = false → shutE ps (openQ vs false) (inQ ys0 xs0) ps.length) ∧ (wl0.heap[b2]? = some (.cells #[.int .i64 m, .slice A n c] 32 (0, 0))) ∧ (Fm A0_3 n0_3 c0_3) ∧ (Rd wl0 1 A0_3 n0_3 (intsV ys0)) ∧ (Fm A0_4 n0_4 c0_4) ∧ (Rd wl0 1 A0_4 n0_4 (intsV xs0)) ∧ (Below w.heap.size w wl0)) (2 * (18 - ys.length - xs.length) + true.toNat) ?_ ?_
  · exact ⟨ys, xs, true, A3, n3, c3, A4, n4, c4, (fun iU9 => lk [(0, .agg #[.int .i64 m, .slice A n c]), (1, .slice A2 n2 c2), (2, .bool false), (3, .slice A3 n3 c3), (4, .slice A4 n4 c4), (5, .pointer (some ⟨b2, 0, none⟩)), (10, .slice none 0 0), (11, .slice none 0 0), (12, .bool true)] iU9 (U11 iU9)), (by kernel_rfl), rfl, hq0, (fun e => by cases e), x6, hfy, (Rd.kept hy c10), hfx, (Rd.kept hx c10), c10⟩
  rintro am0 aa0 wl0 K4 h4 ⟨ys0, xs0, mo, A0_3, n0_3, c0_3, A0_4, n0_4, c0_4, U0, rfl, rfl, hf, hsh, x6, fm0_3, rd0_3, fm0_4, rd0_4, c12⟩
  have hl0_3 := rd_ints_len rd0_3
  have hl0_4 := rd_ints_len rd0_4
  have hfl := hf.len
  refine wp_seq_k (fun K5 h5 => ?_)
  refine wp_seq_k (fun K6 h6 => ?_)
  refine W.region_quiet [(0, false)] (by kernel_rfl) ?_
  refine W.mv (v := .bool mo) (h := ?_)
  refine W.endF 65 [(0, .agg #[.int .i64 m, .slice A n c]), (1, .slice A2 n2 c2), (2, .bool false), (3, .slice A0_3 n0_3 c0_3), (4, .slice A0_4 n0_4 c0_4), (5, .pointer (some ⟨b2, 0, none⟩)), (10, .slice none 0 0), (11, .slice none 0 0), (12, .bool mo), (17, .bool mo)] (fun U13 => ?_)
  refine h6 _ _ ?_
  rcases Bool.eq_false_or_eq_true mo with q14 | q14
  · rw [q14]
    have qmo := q14
    refine wp_cond_true (by kernel_rfl) ?_
    refine wp_skip ?_
    refine h5 _ _ ?_
    refine wp_block ?_
    refine wp_seq_k (fun K7 h7 => ?_)
    refine W.region_quiet [(0, false)] (by kernel_rfl) ?_
    refine W.as (v := .bool false) (h := ?_)
    refine W.endF 65 [(0, .agg #[.int .i64 m, .slice A n c]), (1, .slice A2 n2 c2), (2, .bool false), (3, .slice A0_3 n0_3 c0_3), (4, .slice A0_4 n0_4 c0_4), (5, .pointer (some ⟨b2, 0, none⟩)), (10, .slice none 0 0), (11, .slice none 0 0), (12, .bool false), (17, .bool true)] (fun U15 => ?_)
    refine h7 _ _ ?_
    refine wp_seq_k (fun K8 h8 => ?_)
    refine W.region_quiet [(0, false)] (by kernel_rfl) ?_
    refine W.as (v := .int .i64 0) (h := ?_)
    refine W.endF 65 [(0, .agg #[.int .i64 m, .slice A n c]), (1, .slice A2 n2 c2), (2, .bool false), (3, .slice A0_3 n0_3 c0_3), (4, .slice A0_4 n0_4 c0_4), (5, .pointer (some ⟨b2, 0, none⟩)), (10, .slice none 0 0), (11, .slice none 0 0), (12, .bool false), (13, .int .i64 0), (17, .bool true)] (fun U16 => ?_)
    refine h8 _ _ ?_
    refine wp_block ?_
    refine loopK (fun am1 aa1 wl1 => ∃ (i : Nat) (yt : List Int) (xt : List Int) (mo2 : Bool) (A1_3 : Option Addr) (n1_3 : Nat) (c1_3 : Nat) (A1_4 : Option Addr) (n1_4 : Nat) (c1_4 : Nat) (U1 : Nat → Value), aa1 = ⟨(fr U1 [(0, .agg #[.int .i64 m, .slice A n c]), (1, .slice A2 n2 c2), (2, .bool false), (3, .slice A1_3 n1_3 c1_3), (4, .slice A1_4 n1_4 c1_4), (5, .pointer (some ⟨b2, 0, none⟩)), (10, .slice none 0 0), (11, .slice none 0 0), (12, .bool mo2), (13, .int .i64 ((i : Nat) : Int)), (17, .bool true)] 65 0).toArray, []⟩ ∧ (am1 = n - i) ∧ (i ≤ n) ∧ (FndQ (linked ps (openQ vs false)) m.toNat ps.length a yt xt) ∧ (mo2 = true → ys0.length + xs0.length < yt.length + xt.length) ∧ (mo2 = false → yt = ys0 ∧ xt = xs0 ∧ shutE ps (openQ vs false) (inQ yt xt) i) ∧ (wl1.heap[b2]? = some (.cells #[.int .i64 m, .slice A n c] 32 (0, 0))) ∧ (Fm A1_3 n1_3 c1_3) ∧ (Rd wl1 1 A1_3 n1_3 (intsV yt)) ∧ (Fm A1_4 n1_4 c1_4) ∧ (Rd wl1 1 A1_4 n1_4 (intsV xt)) ∧ (Below w.heap.size w wl1)) (n - 0) ?_ ?_
    · exact ⟨0, ys0, xs0, false, A0_3, n0_3, c0_3, A0_4, n0_4, c0_4, (fun iU9 => lk [(0, .agg #[.int .i64 m, .slice A n c]), (1, .slice A2 n2 c2), (2, .bool false), (3, .slice A0_3 n0_3 c0_3), (4, .slice A0_4 n0_4 c0_4), (5, .pointer (some ⟨b2, 0, none⟩)), (10, .slice none 0 0), (11, .slice none 0 0), (12, .bool false), (13, .int .i64 0), (17, .bool true)] iU9 (U16 iU9)), (by kernel_rfl), rfl, (Nat.zero_le _), hf, (fun e => by cases e), (fun _ => ⟨rfl, rfl, shutE_zero _ _ _⟩), x6, fm0_3, rd0_3, fm0_4, rd0_4, c12⟩
    rintro am1 aa1 wl1 K9 h9 ⟨i, yt, xt, mo2, A1_3, n1_3, c1_3, A1_4, n1_4, c1_4, U1, rfl, rfl, hi, hf2, hmt2, hmf2, x6, fm1_3, rd1_3, fm1_4, rd1_4, c17⟩
    have hl1_3 := rd_ints_len rd1_3
    have hl1_4 := rd_ints_len rd1_4
    have hfl2 := hf2.len
    refine wp_seq_k (fun K10 h10 => ?_)
    refine wp_seq_k (fun K11 h11 => ?_)
    refine W.region_quiet [(0, false), (1, false), (2, false), (3, false), (4, false)] (by kernel_rfl) ?_
    refine W.mv (v := .int .i64 ((i : Nat) : Int)) (h := ?_)
    refine W.q (v := .pointer (some ⟨b2, 1, none⟩)) (hr := (r_field (k := 1) rfl (by kernel_rfl) (by kernel_rfl))) (h := ?_)
    refine W.ld (v := .slice A n c) (hc := (eqS (blk_cell (j := 1) x6 (by kernel_rfl)))) (h := ?_)
    refine W.q (v := .int .i64 ((n : Nat) : Int)) (hr := (r_len (A := A) (n := n) (c := c) rfl (by kernel_rfl) (by kernel_rfl))) (h := ?_)
    by_cases q18 : (((i : Nat) : Int) : Int) < (((n : Nat) : Int) : Int)
    · refine W.q (v := .bool true) (hr := (r_lss (m := ((i : Nat) : Int)) (n := ((n : Nat) : Int)) rfl (by kernel_rfl) (by kernel_rfl) (decide_eq_true q18))) (h := ?_)
      refine W.endF 65 [(0, .agg #[.int .i64 m, .slice A n c]), (1, .slice A2 n2 c2), (2, .bool false), (3, .slice A1_3 n1_3 c1_3), (4, .slice A1_4 n1_4 c1_4), (5, .pointer (some ⟨b2, 0, none⟩)), (10, .slice none 0 0), (11, .slice none 0 0), (12, .bool mo2), (13, .int .i64 ((i : Nat) : Int)), (17, .bool true), (22, .bool true)] (fun U19 => ?_)
      refine h11 _ _ ?_
      refine wp_cond_true (by kernel_rfl) ?_
      refine wp_skip ?_
      refine h10 _ _ ?_
      refine wp_seq_k (fun K12 h12 => ?_)
      refine wp_block ?_
      refine wp_seq_k (fun K13 h13 => ?_)
      refine W.region_plain (row := none) [(0, false), (1, false), (2, false), (3, false), (4, false), (5, true), (6, true)] (by kernel_rfl) ?_
      have s20 := SG.self wl1 none
      refine W.q (v := .pointer (some ⟨b2, 1, none⟩)) (hr := (r_field (k := 1) rfl (by kernel_rfl) (by kernel_rfl))) (h := ?_)
      refine W.ld (v := .slice A n c) (hc := (sgS (blk_cell (j := 1) x6 (by kernel_rfl)) (by simp))) (h := ?_)
      refine W.mv (v := .int .i64 ((i : Nat) : Int)) (h := ?_)
      obtain ⟨x21, hx22⟩ := get_of (zs := ps) (k := i) (by have := hl; omega)
      obtain ⟨b23, o24, hA25, hb26, hc27, hc28, hc29, hc30⟩ := Rd.elPipe ha hx22
      refine W.q (v := .pointer (some ⟨b23, o24 + i * 4, none⟩)) (hr := (r_idx (n := n) (c := c) (k := i) rfl (by kernel_rfl) hA25 (by kernel_rfl) (by kernel_rfl) (by have := hl; omega))) (h := ?_)
      refine W.q (v := .agg #[.int .i64 x21.id, .int .i64 x21.fr, .int .i64 x21.to, .int .i64 x21.sz]) (hr := (r_load4 rfl (by kernel_rfl) (by kernel_rfl) (by kernel_rfl) (sgS (later c17 hc27) (by simp)) (sgS (later c17 hc28) (by simp)) (sgS (later c17 hc29) (by simp)) (sgS (later c17 hc30) (by simp)))) (h := ?_)
      refine W.sn (fun b => .pointer (some ⟨b, 0, none⟩)) #[.int .i64 0, .int .i64 0, .int .i64 0, .int .i64 0] 72 s20 rfl (by kernel_rfl) rfl (fun _ => by kernel_rfl) (fun b31 w32 hb33 k34 x35 s36 => ?_)
      have lo37 : w.heap.size ≤ b31 := by have := ((SG.belowR c17 s20 (fun kq e => by cases e))).size; omega
      have sp38 : Sp A1_3 n1_3 (some b31) := sp_new rd1_3 (by have := World.grownBy.size s20; have := hb33; omega)
      have sp39 : Sp A1_4 n1_4 (some b31) := sp_new rd1_4 (by have := World.grownBy.size s20; have := hb33; omega)
      have ne40 : b2 ≠ b31 := by have := blk_lt x6; have := World.grownBy.size s20; omega
      refine W.ss (v := .agg #[.int .i64 x21.id, .int .i64 x21.fr, .int .i64 x21.to, .int .i64 x21.sz]) (j := 0) (news := [.int .i64 x21.id, .int .i64 x21.fr, .int .i64 x21.to, .int .i64 x21.sz]) (cs' := #[.int .i64 x21.id, .int .i64 x21.fr, .int .i64 x21.to, .int .i64 x21.sz]) s36 rfl (by kernel_rfl) rfl rfl (by kernel_rfl) (by kernel_rfl) x35 (by kernel_rfl) (by kernel_rfl) (by simp) (by kernel_rfl) (by kernel_rfl) (.inr (by have := World.grownBy.size s20; have := hb33; omega)) (fun w41 g42 x43 s44 => ?_)
      refine W.endF 65 [(0, .agg #[.int .i64 m, .slice A n c]), (1, .slice A2 n2 c2), (2, .bool false), (3, .slice A1_3 n1_3 c1_3), (4, .slice A1_4 n1_4 c1_4), (5, .pointer (some ⟨b2, 0, none⟩)), (10, .slice none 0 0), (11, .slice none 0 0), (12, .bool mo2), (13, .int .i64 ((i : Nat) : Int)), (14, .pointer (some ⟨b31, 0, none⟩)), (17, .bool true), (22, .bool true)] (fun U45 => ?_)
      have x6 := SG.blk s44 x6 (by simp)
      have c46 := (SG.belowR c17 s44 (fun kq e => by cases e))
      have rd47 := Rd.kept rd1_3 (SG.below s44)
      have rd48 := Rd.kept rd1_4 (SG.below s44)
      refine h13 _ _ ?_
      refine wp_seq_k (fun K14 h14 => ?_)
      refine W.region_quiet [(0, false)] (by kernel_rfl) ?_
      refine W.as (v := .int .i64 0) (h := ?_)
      refine W.endF 65 [(0, .agg #[.int .i64 m, .slice A n c]), (1, .slice A2 n2 c2), (2, .bool false), (3, .slice A1_3 n1_3 c1_3), (4, .slice A1_4 n1_4 c1_4), (5, .pointer (some ⟨b2, 0, none⟩)), (10, .slice none 0 0), (11, .slice none 0 0), (12, .bool mo2), (13, .int .i64 ((i : Nat) : Int)), (14, .pointer (some ⟨b31, 0, none⟩)), (15, .int .i64 0), (17, .bool true), (22, .bool true)] (fun U49 => ?_)
      refine h14 _ _ ?_
      refine wp_block ?_
      refine loopK (fun am2 aa2 wl2 => ∃ (k : Nat) (yu : List Int) (xu : List Int) (mo3 : Bool) (A2_3 : Option Addr) (n2_3 : Nat) (c2_3 : Nat) (A2_4 : Option Addr) (n2_4 : Nat) (c2_4 : Nat) (U2 : Nat → Value), aa2 = ⟨(fr U2 [(0, .agg #[.int .i64 m, .slice A n c]), (1, .slice A2 n2 c2), (2, .bool false), (3, .slice A2_3 n2_3 c2_3), (4, .slice A2_4 n2_4 c2_4), (5, .pointer (some ⟨b2, 0, none⟩)), (10, .slice none 0 0), (11, .slice none 0 0), (12, .bool mo3), (13, .int .i64 ((i : Nat) : Int)), (14, .pointer (some ⟨b31, 0, none⟩)), (15, .int .i64 ((k : Nat) : Int)), (17, .bool true), (22, .bool true)] 65 0).toArray, []⟩ ∧ (am2 = 2 - k) ∧ (k ≤ 2) ∧ (FndQ (linked ps (openQ vs false)) m.toNat ps.length a yu xu) ∧ (mo3 = true → ys0.length + xs0.length < yu.length + xu.length) ∧ (mo3 = false → yu = ys0 ∧ xu = xs0 ∧ shutE ps (openQ vs false) (inQ yu xu) i ∧ (1 ≤ k → okP (openQ vs false) (inQ yu xu) i x21 x21.fr) ∧ (2 ≤ k → okP (openQ vs false) (inQ yu xu) i x21 x21.to)) ∧ (wl2.heap[b2]? = some (.cells #[.int .i64 m, .slice A n c] 32 (0, 0))) ∧ (wl2.heap[b31]? = some (.cells #[.int .i64 x21.id, .int .i64 x21.fr, .int .i64 x21.to, .int .i64 x21.sz] 72 (0, 0))) ∧ (Fm A2_3 n2_3 c2_3) ∧ (Rd wl2 1 A2_3 n2_3 (intsV yu)) ∧ (Fm A2_4 n2_4 c2_4) ∧ (Rd wl2 1 A2_4 n2_4 (intsV xu)) ∧ (Below w.heap.size w wl2)) (2 - 0) ?_ ?_
      · exact ⟨0, yt, xt, mo2, A1_3, n1_3, c1_3, A1_4, n1_4, c1_4, (fun iU9 => lk [(0, .agg #[.int .i64 m, .slice A n c]), (1, .slice A2 n2 c2), (2, .bool false), (3, .slice A1_3 n1_3 c1_3), (4, .slice A1_4 n1_4 c1_4), (5, .pointer (some ⟨b2, 0, none⟩)), (10, .slice none 0 0), (11, .slice none 0 0), (12, .bool mo2), (13, .int .i64 ((i : Nat) : Int)), (14, .pointer (some ⟨b31, 0, none⟩)), (15, .int .i64 0), (17, .bool true), (22, .bool true)] iU9 (U49 iU9)), (by kernel_rfl), rfl, (Nat.zero_le _), hf2, hmt2, (fun e => ⟨(hmf2 e).1, (hmf2 e).2.1, (hmf2 e).2.2, fun h => absurd h (by omega), fun h => absurd h (by omega)⟩), x6, x43, fm1_3, rd47, fm1_4, rd48, c46⟩
      rintro am2 aa2 wl2 K15 h15 ⟨k, yu, xu, mo3, A2_3, n2_3, c2_3, A2_4, n2_4, c2_4, U2, rfl, rfl, hk, hf3, hmt3, hmf3, x6, x43, fm2_3, rd2_3, fm2_4, rd2_4, c50⟩
      have hl2_3 := rd_ints_len rd2_3
      have hl2_4 := rd_ints_len rd2_4
      have hfl3 := hf3.len
      refine wp_seq_k (fun K16 h16 => ?_)
      refine wp_seq_k (fun K17 h17 => ?_)
      refine W.region_quiet [(0, false), (1, false)] (by kernel_rfl) ?_
      refine W.mv (v := .int .i64 ((k : Nat) : Int)) (h := ?_)
      by_cases q51 : (((k : Nat) : Int) : Int) < (2 : Int)
      · refine W.q (v := .bool true) (hr := (r_lss (m := ((k : Nat) : Int)) (n := 2) rfl (by kernel_rfl) (by kernel_rfl) (decide_eq_true q51))) (h := ?_)
        refine W.endF 65 [(0, .agg #[.int .i64 m, .slice A n c]), (1, .slice A2 n2 c2), (2, .bool false), (3, .slice A2_3 n2_3 c2_3), (4, .slice A2_4 n2_4 c2_4), (5, .pointer (some ⟨b2, 0, none⟩)), (10, .slice none 0 0), (11, .slice none 0 0), (12, .bool mo3), (13, .int .i64 ((i : Nat) : Int)), (14, .pointer (some ⟨b31, 0, none⟩)), (15, .int .i64 ((k : Nat) : Int)), (17, .bool true), (22, .bool true), (31, .bool true)] (fun U52 => ?_)
        refine h17 _ _ ?_
        refine wp_cond_true (by kernel_rfl) ?_
        refine wp_skip ?_
        refine h16 _ _ ?_
        refine wp_seq_k (fun K18 h18 => ?_)
        refine wp_block ?_
        refine wp_seq_k (fun K19 h19 => ?_)
        refine W.region_plain (row := none) [(0, false), (1, false), (2, false), (3, false), (4, true), (5, false), (6, false), (7, true), (8, false)] (by kernel_rfl) ?_
        have s53 := SG.self wl2 none
        refine W.q (v := .pointer (some ⟨b31, 1, none⟩)) (hr := (r_field (k := 1) rfl (by kernel_rfl) (by kernel_rfl))) (h := ?_)
        refine W.ld (v := .int .i64 x21.fr) (hc := (sgS (blk_cell (j := 1) x43 (by kernel_rfl)) (by simp))) (h := ?_)
        refine W.q (v := .pointer (some ⟨b31, 2, none⟩)) (hr := (r_field (k := 2) rfl (by kernel_rfl) (by kernel_rfl))) (h := ?_)
        refine W.ld (v := .int .i64 x21.to) (hc := (sgS (blk_cell (j := 2) x43 (by kernel_rfl)) (by simp))) (h := ?_)
        refine W.sn (fun b => .slice (some ⟨b, 0, none⟩) 2 2) #[.int .i64 x21.fr, .int .i64 x21.to] 3 s53 rfl (by kernel_rfl) rfl (fun _ => by kernel_rfl) (fun b54 w55 hb56 k57 x58 s59 => ?_)
        have lo60 : w.heap.size ≤ b54 := by have := ((SG.belowR c50 s53 (fun kq e => by cases e))).size; omega
        have sp61 : Sp A2_3 n2_3 (some b54) := sp_new rd2_3 (by have := World.grownBy.size s53; have := hb56; omega)
        have sp62 : Sp A2_4 n2_4 (some b54) := sp_new rd2_4 (by have := World.grownBy.size s53; have := hb56; omega)
        have ne63 : b2 ≠ b54 := by have := blk_lt x6; have := World.grownBy.size s53; omega
        have ne64 : b31 ≠ b54 := by have := blk_lt x43; have := World.grownBy.size s53; omega
        refine W.mv (v := .int .i64 ((k : Nat) : Int)) (h := ?_)
        have ho65 := own_blk (base := w.heap.size) (size := 1) (n := 2) x58 lo60 rfl (by omega)
        replace ho65 : World.ownsRow _ _ _ _ _ _ (intsV [x21.fr, x21.to]) := ho65
        have sp66 := sp_own (n' := 2) (c := 2) sp61
        have sp67 := sp_own (n' := 2) (c := 2) sp62
        have nb68 : Nb b2 (.slice (some ⟨b54, 0, none⟩) 2 2) := nb_new (by have := ne63; omega)
        have nb69 : Nb b31 (.slice (some ⟨b54, 0, none⟩) 2 2) := nb_new (by have := ne64; omega)
        have rd71 := own_rd ho65
        have hl72 := rd_ints_len rd71
        obtain ⟨x73, hx74⟩ := get_of (zs := [x21.fr, x21.to]) (k := k) (by have := hl72; omega)
        have hy2 := two_of hx74
        have hpx := hp x21 (List.mem_of_getElem? hx22)
        obtain ⟨b75, o76, hA77, hb78, hc79⟩ := Rd.elInt rd71 hx74
        refine W.q (v := .pointer (some ⟨b75, o76 + k, none⟩)) (hr := (r_idx1 (n := 2) (c := 2) (k := k) rfl (by kernel_rfl) hA77 (by kernel_rfl) (by kernel_rfl) (by have := hl72; omega))) (h := ?_)
        refine W.slq (v := .int .i64 x73) s59 rfl (r_load rfl (by kernel_rfl) (by kernel_rfl) (eqS hc79)) (by kernel_rfl) rfl ?_
        refine W.as (v := .int .i64 x73) (h := ?_)
        refine W.endF 65 [(0, .agg #[.int .i64 m, .slice A n c]), (1, .slice A2 n2 c2), (2, .bool false), (3, .slice A2_3 n2_3 c2_3), (4, .slice A2_4 n2_4 c2_4), (5, .pointer (some ⟨b2, 0, none⟩)), (10, .slice none 0 0), (11, .slice none 0 0), (12, .bool mo3), (13, .int .i64 ((i : Nat) : Int)), (14, .pointer (some ⟨b31, 0, none⟩)), (15, .int .i64 ((k : Nat) : Int)), (16, .int .i64 x73), (17, .bool true), (22, .bool true), (31, .bool true)] (fun U80 => ?_)
        have x6 := SG.blk s59 x6 (by simp)
        have x43 := SG.blk s59 x43 (by simp)
        have c81 := (SG.belowR c50 s59 (fun kq e => by cases e))
        have rd82 := Rd.kept rd2_3 (SG.below s59)
        have rd83 := Rd.kept rd2_4 (SG.below s59)
        refine h19 _ _ ?_
        refine wp_seq_k (fun K20 h20 => ?_)
        refine wp_seq_k (fun K21 h21 => ?_)
        refine W.region_plain (row := none) [(0, false), (1, false), (2, false), (3, false), (4, false), (5, true), (6, false), (7, false), (8, false), (9, true), (10, false), (11, false), (12, true), (13, false), (14, false)] (by kernel_rfl) ?_
        have s84 := SG.self w55 none
        refine W.mv (v := .slice A2 n2 c2) (h := ?_)
        refine W.q (v := .pointer (some ⟨b31, 0, none⟩)) (hr := (r_field0 rfl (by kernel_rfl) (by kernel_rfl))) (h := ?_)
        refine W.ld (v := .int .i64 x21.id) (hc := (sgS (blk_cell (j := 0) x43 (by kernel_rfl)) (by simp))) (h := ?_)
        refine W.mv (v := .int .i64 x73) (h := ?_)
        refine W.mv (v := .bool false) (h := ?_)
        refine W.sc (vs := [.slice A2 n2 c2, .int .i64 x21.id, .int .i64 x73, .bool false]) rfl rfl (by kernel_rfl) (by kernel_rfl) (by kernel_rfl) rfl (l4Blocked_false A2 n2 c2 vs x21.id x73 _ (Rd.kept hb (SG.belowR c81 s84 (fun kq e => by cases e))) (by omega)) ?_
        rintro e w86 ⟨rfl, b85⟩
        have s87 := SG.of_below s84 b85
        refine ⟨_, rfl, s87, ?_⟩
        rcases Bool.eq_false_or_eq_true (blocked vs x21.id x73 false) with q88 | q88
        · rw [q88]
          refine W.mv (v := .bool true) (h := ?_)
          refine W.sp s87 (h := ?_)
          refine W.sp s87 (h := ?_)
          refine W.sp s87 (h := ?_)
          refine W.sp s87 (h := ?_)
          refine W.sp s87 (h := ?_)
          refine W.sp s87 (h := ?_)
          refine W.sp s87 (h := ?_)
          refine W.q (v := .bool true) (hr := (r_pick (b := true) rfl (by kernel_rfl) (by kernel_rfl))) (h := ?_)
          refine W.endF 65 [(0, .agg #[.int .i64 m, .slice A n c]), (1, .slice A2 n2 c2), (2, .bool false), (3, .slice A2_3 n2_3 c2_3), (4, .slice A2_4 n2_4 c2_4), (5, .pointer (some ⟨b2, 0, none⟩)), (10, .slice none 0 0), (11, .slice none 0 0), (12, .bool mo3), (13, .int .i64 ((i : Nat) : Int)), (14, .pointer (some ⟨b31, 0, none⟩)), (15, .int .i64 ((k : Nat) : Int)), (16, .int .i64 x73), (17, .bool true), (22, .bool true), (31, .bool true), (56, .bool true)] (fun U89 => ?_)
          have x6 := SG.blk s87 x6 (by simp)
          have x43 := SG.blk s87 x43 (by simp)
          have c90 := (SG.belowR c81 s87 (fun kq e => by cases e))
          have rd91 := Rd.kept rd82 (SG.below s87)
          have rd92 := Rd.kept rd83 (SG.below s87)
          have rd93 := Rd.kept rd71 (SG.below s87)
          refine h21 _ _ ?_
          refine wp_cond_true (by kernel_rfl) ?_
          refine wp_exit ?_
          refine h18 _ _ ?_
          refine W.region_quiet [(0, false), (1, false), (2, false)] (by kernel_rfl) ?_
          refine W.mv (v := .int .i64 ((k : Nat) : Int)) (h := ?_)
          refine W.q (v := .int .i64 ((k + 1 : Nat) : Int)) (hr := (r_add (m := ((k : Nat) : Int)) (n := 1) (z := ((k + 1 : Nat) : Int)) rfl (by kernel_rfl) (by kernel_rfl) (by omega) (by omega))) (h := ?_)
          refine W.as (v := .int .i64 ((k + 1 : Nat) : Int)) (h := ?_)
          refine W.endF 65 [(0, .agg #[.int .i64 m, .slice A n c]), (1, .slice A2 n2 c2), (2, .bool false), (3, .slice A2_3 n2_3 c2_3), (4, .slice A2_4 n2_4 c2_4), (5, .pointer (some ⟨b2, 0, none⟩)), (10, .slice none 0 0), (11, .slice none 0 0), (12, .bool mo3), (13, .int .i64 ((i : Nat) : Int)), (14, .pointer (some ⟨b31, 0, none⟩)), (15, .int .i64 ((k + 1 : Nat) : Int)), (16, .int .i64 x73), (17, .bool true), (22, .bool true), (31, .bool true), (56, .bool true)] (fun U94 => ?_)
          exact h15 _ _ _ (by omega : (2 - (k + 1)) < _) ⟨k + 1, yu, xu, mo3, A2_3, n2_3, c2_3, A2_4, n2_4, c2_4, (fun iU9 => lk [(0, .agg #[.int .i64 m, .slice A n c]), (1, .slice A2 n2 c2), (2, .bool false), (3, .slice A2_3 n2_3 c2_3), (4, .slice A2_4 n2_4 c2_4), (5, .pointer (some ⟨b2, 0, none⟩)), (10, .slice none 0 0), (11, .slice none 0 0), (12, .bool mo3), (13, .int .i64 ((i : Nat) : Int)), (14, .pointer (some ⟨b31, 0, none⟩)), (15, .int .i64 ((k + 1 : Nat) : Int)), (16, .int .i64 x73), (17, .bool true), (22, .bool true), (31, .bool true), (56, .bool true)] iU9 (U94 iU9)), (by kernel_rfl), rfl, (by omega), hf3, hmt3, (fun e => ⟨(hmf3 e).1, (hmf3 e).2.1, (hmf3 e).2.2.1, two_next hy2 (hmf3 e).2.2.2.1 (okP_shut (openQ_no q88))⟩), x6, x43, fm2_3, rd91, fm2_4, rd92, c90⟩
        · rw [q88]
          refine W.mv (v := .bool false) (h := ?_)
          refine W.mv (v := .slice A2_3 n2_3 c2_3) (h := ?_)
          refine W.mv (v := .int .i64 x73) (h := ?_)
          refine W.sc (vs := [.slice A2_3 n2_3 c2_3, .int .i64 x73]) rfl rfl (by kernel_rfl) (by kernel_rfl) (by kernel_rfl) rfl (l1Has_any A2_3 n2_3 c2_3 yu x73 _ (Rd.kept rd82 (SG.below s87)) (by omega)) ?_
          rintro e w96 ⟨rfl, b95⟩
          have s97 := SG.of_below s87 b95
          refine ⟨_, rfl, s97, ?_⟩
          refine W.mv (v := .slice A2_4 n2_4 c2_4) (h := ?_)
          refine W.mv (v := .int .i64 ((i : Nat) : Int)) (h := ?_)
          refine W.sc (vs := [.slice A2_4 n2_4 c2_4, .int .i64 ((i : Nat) : Int)]) rfl rfl (by kernel_rfl) (by kernel_rfl) (by kernel_rfl) rfl (l1Has_any A2_4 n2_4 c2_4 xu ((i : Nat) : Int) _ (Rd.kept rd83 (SG.below s97)) (by omega)) ?_
          rintro e w99 ⟨rfl, b98⟩
          have s100 := SG.of_below s97 b98
          refine ⟨_, rfl, s100, ?_⟩
          by_cases q101 : (yu.contains x73) = (xu.contains ((i : Nat) : Int))
          · refine W.q (v := .bool true) (hr := (r_eqlB (m := (yu.contains x73)) (n := (xu.contains ((i : Nat) : Int))) rfl (by kernel_rfl) (by kernel_rfl) (by kernel_rfl) (beq_iff_eq.2 q101))) (h := ?_)
            refine W.q (v := .bool true) (hr := (r_pick (b := false) rfl (by kernel_rfl) (by kernel_rfl))) (h := ?_)
            refine W.endF 65 [(0, .agg #[.int .i64 m, .slice A n c]), (1, .slice A2 n2 c2), (2, .bool false), (3, .slice A2_3 n2_3 c2_3), (4, .slice A2_4 n2_4 c2_4), (5, .pointer (some ⟨b2, 0, none⟩)), (10, .slice none 0 0), (11, .slice none 0 0), (12, .bool mo3), (13, .int .i64 ((i : Nat) : Int)), (14, .pointer (some ⟨b31, 0, none⟩)), (15, .int .i64 ((k : Nat) : Int)), (16, .int .i64 x73), (17, .bool true), (22, .bool true), (31, .bool true), (56, .bool true)] (fun U102 => ?_)
            have x6 := SG.blk s100 x6 (by simp)
            have x43 := SG.blk s100 x43 (by simp)
            have c103 := (SG.belowR c81 s100 (fun kq e => by cases e))
            have rd104 := Rd.kept rd82 (SG.below s100)
            have rd105 := Rd.kept rd83 (SG.below s100)
            have rd106 := Rd.kept rd71 (SG.below s100)
            refine h21 _ _ ?_
            refine wp_cond_true (by kernel_rfl) ?_
            refine wp_exit ?_
            refine h18 _ _ ?_
            refine W.region_quiet [(0, false), (1, false), (2, false)] (by kernel_rfl) ?_
            refine W.mv (v := .int .i64 ((k : Nat) : Int)) (h := ?_)
            refine W.q (v := .int .i64 ((k + 1 : Nat) : Int)) (hr := (r_add (m := ((k : Nat) : Int)) (n := 1) (z := ((k + 1 : Nat) : Int)) rfl (by kernel_rfl) (by kernel_rfl) (by omega) (by omega))) (h := ?_)
            refine W.as (v := .int .i64 ((k + 1 : Nat) : Int)) (h := ?_)
            refine W.endF 65 [(0, .agg #[.int .i64 m, .slice A n c]), (1, .slice A2 n2 c2), (2, .bool false), (3, .slice A2_3 n2_3 c2_3), (4, .slice A2_4 n2_4 c2_4), (5, .pointer (some ⟨b2, 0, none⟩)), (10, .slice none 0 0), (11, .slice none 0 0), (12, .bool mo3), (13, .int .i64 ((i : Nat) : Int)), (14, .pointer (some ⟨b31, 0, none⟩)), (15, .int .i64 ((k + 1 : Nat) : Int)), (16, .int .i64 x73), (17, .bool true), (22, .bool true), (31, .bool true), (56, .bool true)] (fun U107 => ?_)
            exact h15 _ _ _ (by omega : (2 - (k + 1)) < _) ⟨k + 1, yu, xu, mo3, A2_3, n2_3, c2_3, A2_4, n2_4, c2_4, (fun iU9 => lk [(0, .agg #[.int .i64 m, .slice A n c]), (1, .slice A2 n2 c2), (2, .bool false), (3, .slice A2_3 n2_3 c2_3), (4, .slice A2_4 n2_4 c2_4), (5, .pointer (some ⟨b2, 0, none⟩)), (10, .slice none 0 0), (11, .slice none 0 0), (12, .bool mo3), (13, .int .i64 ((i : Nat) : Int)), (14, .pointer (some ⟨b31, 0, none⟩)), (15, .int .i64 ((k + 1 : Nat) : Int)), (16, .int .i64 x73), (17, .bool true), (22, .bool true), (31, .bool true), (56, .bool true)] iU9 (U107 iU9)), (by kernel_rfl), rfl, (by omega), hf3, hmt3, (fun e => ⟨(hmf3 e).1, (hmf3 e).2.1, (hmf3 e).2.2.1, two_next hy2 (hmf3 e).2.2.2.1 (okQ_same (m := m.toNat) (by omega) hf3.b1 (by omega) q101)⟩), x6, x43, fm2_3, rd104, fm2_4, rd105, c103⟩
          · refine W.q (v := .bool false) (hr := (r_eqlB (m := (yu.contains x73)) (n := (xu.contains ((i : Nat) : Int))) rfl (by kernel_rfl) (by kernel_rfl) (by kernel_rfl) (beq_eq_false_iff_ne.2 q101))) (h := ?_)
            refine W.q (v := .bool false) (hr := (r_pick (b := false) rfl (by kernel_rfl) (by kernel_rfl))) (h := ?_)
            refine W.endF 65 [(0, .agg #[.int .i64 m, .slice A n c]), (1, .slice A2 n2 c2), (2, .bool false), (3, .slice A2_3 n2_3 c2_3), (4, .slice A2_4 n2_4 c2_4), (5, .pointer (some ⟨b2, 0, none⟩)), (10, .slice none 0 0), (11, .slice none 0 0), (12, .bool mo3), (13, .int .i64 ((i : Nat) : Int)), (14, .pointer (some ⟨b31, 0, none⟩)), (15, .int .i64 ((k : Nat) : Int)), (16, .int .i64 x73), (17, .bool true), (22, .bool true), (31, .bool true), (56, .bool false)] (fun U108 => ?_)
            have x6 := SG.blk s100 x6 (by simp)
            have x43 := SG.blk s100 x43 (by simp)
            have c109 := (SG.belowR c81 s100 (fun kq e => by cases e))
            have rd110 := Rd.kept rd82 (SG.below s100)
            have rd111 := Rd.kept rd83 (SG.below s100)
            have rd112 := Rd.kept rd71 (SG.below s100)
            refine h21 _ _ ?_
            refine wp_cond_false (by kernel_rfl) ?_
            refine wp_skip ?_
            refine h20 _ _ ?_
            refine wp_seq_k (fun K22 h22 => ?_)
            refine W.region_plain (row := none) [(0, false), (1, false), (2, true), (3, false)] (by kernel_rfl) ?_
            have s113 := SG.self w99 none
            refine W.mv (v := .slice A2_3 n2_3 c2_3) (h := ?_)
            refine W.mv (v := .int .i64 x73) (h := ?_)
            refine W.sc (vs := [.slice A2_3 n2_3 c2_3, .int .i64 x73]) rfl rfl (by kernel_rfl) (by kernel_rfl) (by kernel_rfl) rfl (l1Put_any A2_3 n2_3 c2_3 yu x73 _ (Rd.kept rd110 (SG.below s113)) fm2_3 (by have h7 := hl2_3; first | omega)) ?_
            rintro e w122 ⟨A114, n115, c116, rfl, rd117, fm118, b121⟩
            have s123 := SG.of_below s113 b121
            refine ⟨_, rfl, s123, ?_⟩
            have hl119 := rd_ints_len rd117
            refine W.as (v := .slice A114 n115 c116) (h := ?_)
            refine W.endF 65 [(0, .agg #[.int .i64 m, .slice A n c]), (1, .slice A2 n2 c2), (2, .bool false), (3, .slice A114 n115 c116), (4, .slice A2_4 n2_4 c2_4), (5, .pointer (some ⟨b2, 0, none⟩)), (10, .slice none 0 0), (11, .slice none 0 0), (12, .bool mo3), (13, .int .i64 ((i : Nat) : Int)), (14, .pointer (some ⟨b31, 0, none⟩)), (15, .int .i64 ((k : Nat) : Int)), (16, .int .i64 x73), (17, .bool true), (22, .bool true), (31, .bool true), (56, .bool false)] (fun U124 => ?_)
            have x6 := SG.blk s123 x6 (by simp)
            have x43 := SG.blk s123 x43 (by simp)
            have c125 := (SG.belowR c109 s123 (fun kq e => by cases e))
            have rd126 := Rd.kept rd110 (SG.below s123)
            have rd127 := Rd.kept rd111 (SG.below s123)
            have rd128 := Rd.kept rd112 (SG.below s123)
            refine h22 _ _ ?_
            refine wp_seq_k (fun K23 h23 => ?_)
            refine W.region_plain (row := none) [(0, false), (1, false), (2, true), (3, false)] (by kernel_rfl) ?_
            have s129 := SG.self w122 none
            refine W.mv (v := .slice A2_4 n2_4 c2_4) (h := ?_)
            refine W.mv (v := .int .i64 ((i : Nat) : Int)) (h := ?_)
            refine W.sc (vs := [.slice A2_4 n2_4 c2_4, .int .i64 ((i : Nat) : Int)]) rfl rfl (by kernel_rfl) (by kernel_rfl) (by kernel_rfl) rfl (l1Put_any A2_4 n2_4 c2_4 xu ((i : Nat) : Int) _ (Rd.kept rd127 (SG.below s129)) fm2_4 (by have h7 := hl2_4; first | omega)) ?_
            rintro e w138 ⟨A130, n131, c132, rfl, rd133, fm134, b137⟩
            have s139 := SG.of_below s129 b137
            refine ⟨_, rfl, s139, ?_⟩
            have hl135 := rd_ints_len rd133
            refine W.as (v := .slice A130 n131 c132) (h := ?_)
            refine W.endF 65 [(0, .agg #[.int .i64 m, .slice A n c]), (1, .slice A2 n2 c2), (2, .bool false), (3, .slice A114 n115 c116), (4, .slice A130 n131 c132), (5, .pointer (some ⟨b2, 0, none⟩)), (10, .slice none 0 0), (11, .slice none 0 0), (12, .bool mo3), (13, .int .i64 ((i : Nat) : Int)), (14, .pointer (some ⟨b31, 0, none⟩)), (15, .int .i64 ((k : Nat) : Int)), (16, .int .i64 x73), (17, .bool true), (22, .bool true), (31, .bool true), (56, .bool false)] (fun U140 => ?_)
            have x6 := SG.blk s139 x6 (by simp)
            have x43 := SG.blk s139 x43 (by simp)
            have c141 := (SG.belowR c125 s139 (fun kq e => by cases e))
            have rd142 := Rd.kept rd126 (SG.below s139)
            have rd143 := Rd.kept rd127 (SG.below s139)
            have rd144 := Rd.kept rd128 (SG.below s139)
            have rd145 := Rd.kept rd117 (SG.below s139)
            refine h23 _ _ ?_
            refine W.region_quiet [(0, false)] (by kernel_rfl) ?_
            refine W.as (v := .bool true) (h := ?_)
            refine W.endF 65 [(0, .agg #[.int .i64 m, .slice A n c]), (1, .slice A2 n2 c2), (2, .bool false), (3, .slice A114 n115 c116), (4, .slice A130 n131 c132), (5, .pointer (some ⟨b2, 0, none⟩)), (10, .slice none 0 0), (11, .slice none 0 0), (12, .bool true), (13, .int .i64 ((i : Nat) : Int)), (14, .pointer (some ⟨b31, 0, none⟩)), (15, .int .i64 ((k : Nat) : Int)), (16, .int .i64 x73), (17, .bool true), (22, .bool true), (31, .bool true), (56, .bool false)] (fun U146 => ?_)
            refine h18 _ _ ?_
            refine W.region_quiet [(0, false), (1, false), (2, false)] (by kernel_rfl) ?_
            refine W.mv (v := .int .i64 ((k : Nat) : Int)) (h := ?_)
            refine W.q (v := .int .i64 ((k + 1 : Nat) : Int)) (hr := (r_add (m := ((k : Nat) : Int)) (n := 1) (z := ((k + 1 : Nat) : Int)) rfl (by kernel_rfl) (by kernel_rfl) (by omega) (by omega))) (h := ?_)
            refine W.as (v := .int .i64 ((k + 1 : Nat) : Int)) (h := ?_)
            refine W.endF 65 [(0, .agg #[.int .i64 m, .slice A n c]), (1, .slice A2 n2 c2), (2, .bool false), (3, .slice A114 n115 c116), (4, .slice A130 n131 c132), (5, .pointer (some ⟨b2, 0, none⟩)), (10, .slice none 0 0), (11, .slice none 0 0), (12, .bool true), (13, .int .i64 ((i : Nat) : Int)), (14, .pointer (some ⟨b31, 0, none⟩)), (15, .int .i64 ((k + 1 : Nat) : Int)), (16, .int .i64 x73), (17, .bool true), (22, .bool true), (31, .bool true), (56, .bool false)] (fun U147 => ?_)
            exact h15 _ _ _ (by omega : (2 - (k + 1)) < _) ⟨k + 1, putL yu x73, putL xu (i : Int), true, A114, n115, c116, A130, n131, c132, (fun iU9 => lk [(0, .agg #[.int .i64 m, .slice A n c]), (1, .slice A2 n2 c2), (2, .bool false), (3, .slice A114 n115 c116), (4, .slice A130 n131 c132), (5, .pointer (some ⟨b2, 0, none⟩)), (10, .slice none 0 0), (11, .slice none 0 0), (12, .bool true), (13, .int .i64 ((i : Nat) : Int)), (14, .pointer (some ⟨b31, 0, none⟩)), (15, .int .i64 ((k + 1 : Nat) : Int)), (16, .int .i64 x73), (17, .bool true), (22, .bool true), (31, .bool true), (56, .bool false)] iU9 (U147 iU9)), (by kernel_rfl), rfl, (by omega), (hf3.put (by omega) hx22 (by omega) (by omega) (openQ_yes q88) q101), (fun _ => by have h9 := put2_len2 q101; rcases Bool.eq_false_or_eq_true mo3 with e | e <;> first | (have h8 := hmt3 e; omega) | (have h8 := hmf3 e; rw [h8.1, h8.2.1] at h9; rw [h8.1, h8.2.1]; exact h9)), (fun e => by cases e), x6, x43, fm118, rd145, fm134, rd133, c141⟩
      · refine W.q (v := .bool false) (hr := (r_lss (m := ((k : Nat) : Int)) (n := 2) rfl (by kernel_rfl) (by kernel_rfl) (decide_eq_false q51))) (h := ?_)
        refine W.endF 65 [(0, .agg #[.int .i64 m, .slice A n c]), (1, .slice A2 n2 c2), (2, .bool false), (3, .slice A2_3 n2_3 c2_3), (4, .slice A2_4 n2_4 c2_4), (5, .pointer (some ⟨b2, 0, none⟩)), (10, .slice none 0 0), (11, .slice none 0 0), (12, .bool mo3), (13, .int .i64 ((i : Nat) : Int)), (14, .pointer (some ⟨b31, 0, none⟩)), (15, .int .i64 ((k : Nat) : Int)), (17, .bool true), (22, .bool true), (31, .bool false)] (fun U148 => ?_)
        refine h17 _ _ ?_
        refine wp_cond_false (by kernel_rfl) ?_
        refine wp_exit ?_
        refine h12 _ _ ?_
        refine W.region_quiet [(0, false), (1, false), (2, false)] (by kernel_rfl) ?_
        refine W.mv (v := .int .i64 ((i : Nat) : Int)) (h := ?_)
        refine W.q (v := .int .i64 ((i + 1 : Nat) : Int)) (hr := (r_add (m := ((i : Nat) : Int)) (n := 1) (z := ((i + 1 : Nat) : Int)) rfl (by kernel_rfl) (by kernel_rfl) (by omega) (by omega))) (h := ?_)
        refine W.as (v := .int .i64 ((i + 1 : Nat) : Int)) (h := ?_)
        refine W.endF 65 [(0, .agg #[.int .i64 m, .slice A n c]), (1, .slice A2 n2 c2), (2, .bool false), (3, .slice A2_3 n2_3 c2_3), (4, .slice A2_4 n2_4 c2_4), (5, .pointer (some ⟨b2, 0, none⟩)), (10, .slice none 0 0), (11, .slice none 0 0), (12, .bool mo3), (13, .int .i64 ((i + 1 : Nat) : Int)), (14, .pointer (some ⟨b31, 0, none⟩)), (15, .int .i64 ((k : Nat) : Int)), (17, .bool true), (22, .bool true), (31, .bool false)] (fun U149 => ?_)
        exact h9 _ _ _ (by omega : (n - (i + 1)) < _) ⟨i + 1, yu, xu, mo3, A2_3, n2_3, c2_3, A2_4, n2_4, c2_4, (fun iU9 => lk [(0, .agg #[.int .i64 m, .slice A n c]), (1, .slice A2 n2 c2), (2, .bool false), (3, .slice A2_3 n2_3 c2_3), (4, .slice A2_4 n2_4 c2_4), (5, .pointer (some ⟨b2, 0, none⟩)), (10, .slice none 0 0), (11, .slice none 0 0), (12, .bool mo3), (13, .int .i64 ((i + 1 : Nat) : Int)), (14, .pointer (some ⟨b31, 0, none⟩)), (15, .int .i64 ((k : Nat) : Int)), (17, .bool true), (22, .bool true), (31, .bool false)] iU9 (U149 iU9)), (by kernel_rfl), rfl, (by omega), hf3, hmt3, (fun e => ⟨(hmf3 e).1, (hmf3 e).2.1, (hmf3 e).2.2.1.next hx22 ((hmf3 e).2.2.2.1 (by omega)) ((hmf3 e).2.2.2.2 (by omega))⟩), x6, fm2_3, rd2_3, fm2_4, rd2_4, c50⟩
    · refine W.q (v := .bool false) (hr := (r_lss (m := ((i : Nat) : Int)) (n := ((n : Nat) : Int)) rfl (by kernel_rfl) (by kernel_rfl) (decide_eq_false q18))) (h := ?_)
      refine W.endF 65 [(0, .agg #[.int .i64 m, .slice A n c]), (1, .slice A2 n2 c2), (2, .bool false), (3, .slice A1_3 n1_3 c1_3), (4, .slice A1_4 n1_4 c1_4), (5, .pointer (some ⟨b2, 0, none⟩)), (10, .slice none 0 0), (11, .slice none 0 0), (12, .bool mo2), (13, .int .i64 ((i : Nat) : Int)), (17, .bool true), (22, .bool false)] (fun U150 => ?_)
      refine h11 _ _ ?_
      refine wp_cond_false (by kernel_rfl) ?_
      refine wp_exit ?_
      exact h4 _ _ _ (by rcases Bool.eq_false_or_eq_true mo2 with e | e <;> rw [e] <;> simp only [Bool.toNat_true, Bool.toNat_false, qmo] <;> first | (have h9 := hmt2 e; omega) | (rw [(hmf2 e).1, (hmf2 e).2.1]; omega) : (2 * (18 - yt.length - xt.length) + mo2.toNat) < _) ⟨yt, xt, mo2, A1_3, n1_3, c1_3, A1_4, n1_4, c1_4, (fun iU9 => lk [(0, .agg #[.int .i64 m, .slice A n c]), (1, .slice A2 n2 c2), (2, .bool false), (3, .slice A1_3 n1_3 c1_3), (4, .slice A1_4 n1_4 c1_4), (5, .pointer (some ⟨b2, 0, none⟩)), (10, .slice none 0 0), (11, .slice none 0 0), (12, .bool mo2), (13, .int .i64 ((i : Nat) : Int)), (17, .bool true), (22, .bool false)] iU9 (U150 iU9)), (by kernel_rfl), rfl, hf2, (fun e => by have h9 := (hmf2 e).2.2; rw [show i = ps.length by omega] at h9; exact h9), x6, fm1_3, rd1_3, fm1_4, rd1_4, c17⟩
  · rw [q14]
    have qmo := q14
    refine wp_cond_false (by kernel_rfl) ?_
    refine wp_exit ?_
    refine h2 _ _ ?_
    refine wp_seq_k (fun K24 h24 => ?_)
    refine W.region_quiet [(0, false), (1, false), (2, false), (3, false)] (by kernel_rfl) ?_
    refine W.mv (v := .slice A0_3 n0_3 c0_3) (h := ?_)
    refine W.mv (v := .slice A0_4 n0_4 c0_4) (h := ?_)
    refine W.as (v := .slice A0_3 n0_3 c0_3) (h := ?_)
    refine W.as (v := .slice A0_4 n0_4 c0_4) (h := ?_)
    refine W.endF 65 [(0, .agg #[.int .i64 m, .slice A n c]), (1, .slice A2 n2 c2), (2, .bool false), (3, .slice A0_3 n0_3 c0_3), (4, .slice A0_4 n0_4 c0_4), (5, .pointer (some ⟨b2, 0, none⟩)), (10, .slice A0_3 n0_3 c0_3), (11, .slice A0_4 n0_4 c0_4), (12, .bool false), (17, .bool false)] (fun U151 => ?_)
    refine h24 _ _ ?_
    refine wp_ret ?_
    try simp only [Exit.then]
    refine ret2 (v := .slice A0_3 n0_3 c0_3) (x := .slice A0_4 n0_4 c0_4) rfl (by kernel_rfl) (by kernel_rfl) ?_
    have e9 := hf.fin (by omega) (hsh qmo)
    exact ⟨_, _, _, _, _, _, rfl, (by rw [← e9.1]; exact rd0_3), fm0_3, (by rw [← e9.2]; exact rd0_4), fm0_4, c12⟩

set_option maxRecDepth 100000 in
set_option maxHeartbeats 1000000 in
theorem l4Spread_true (m : Int) (A : Option Addr) (n c : Nat) (ps : List Pp) (A2 : Option Addr) (n2 c2 : Nat) (vs : List Vv) (a : Int) (A3 : Option Addr) (n3 c3 : Nat) (ys : List Int) (A4 : Option Addr) (n4 c4 : Nat) (xs : List Int) (w : World) (ha : Rd w 4 A n (pipesV ps)) (hb : Rd w 4 A2 n2 (valvesV vs)) (hn : n ≤ 1048576) (hn2 : n2 ≤ 1048576) (hp : pipesIn ps m.toNat) (hm : 1 ≤ m ∧ m ≤ 8) (hlen10 : ps.length ≤ 10) (hy : Rd w 1 A3 n3 (intsV ys)) (hfy : Fm A3 n3 c3) (hx : Rd w 1 A4 n4 (intsV xs)) (hfx : Fm A4 n4 c4) (hq0 : FndQ (linked ps (openQ vs true)) m.toNat ps.length a ys xs) :
    Calls Try.prog 112 #[.agg #[.int .i64 m, .slice A n c], .slice A2 n2 c2, .bool true, .slice A3 n3 c3, .slice A4 n4 c4] w fun e w' => ∃ A5 n5 c5 A6 n6 c6, e = .returned (.tuple #[.slice A5 n5 c5, .slice A6 n6 c6]) ∧ Rd w' 1 A5 n5 (intsV (nodesL (linked ps (openQ vs true)) m.toNat a true)) ∧ Fm A5 n5 c5 ∧ Rd w' 1 A6 n6 (intsV (idxL (linked ps (openQ vs true)) ps.length a true)) ∧ Fm A6 n6 c6 ∧ Below w.heap.size w w' := by
  have hl := rd_pipes_len ha
  have hl2 := rd_valves_len hb
  have hly := rd_ints_len hy
  have hlx := rd_ints_len hx
  have hfl0 := hq0.len
  go_enter Try.func112, Try.ntmps112
  refine wp_seq_k (fun K1 h1 => ?_)
  refine W.region_plain (row := none) [(0, true), (1, false), (2, false)] (by kernel_rfl) ?_
  have s1 := SG.self w none
  refine W.sn (fun b => .pointer (some ⟨b, 0, none⟩)) #[.int .i64 m, .slice A n c] 32 s1 rfl (by kernel_rfl) rfl (fun _ => by kernel_rfl) (fun b2 w3 hb4 k5 x6 s7 => ?_)
  have lo8 : w.heap.size ≤ b2 := by have := ((SG.belowR (Below.refl _ _) s1 (fun kq e => by cases e))).size; omega
  refine W.as (v := .slice none 0 0) (h := ?_)
  refine W.as (v := .slice none 0 0) (h := ?_)
  refine W.endF 65 [(0, .agg #[.int .i64 m, .slice A n c]), (1, .slice A2 n2 c2), (2, .bool true), (3, .slice A3 n3 c3), (4, .slice A4 n4 c4), (5, .pointer (some ⟨b2, 0, none⟩)), (10, .slice none 0 0), (11, .slice none 0 0)] (fun U9 => ?_)
  have c10 := (SG.belowR (Below.refl _ _) s7 (fun kq e => by cases e))
  refine h1 _ _ ?_
  refine wp_seq_k (fun K2 h2 => ?_)
  refine wp_seq_k (fun K3 h3 => ?_)
  refine W.region_quiet [(0, false)] (by kernel_rfl) ?_
  refine W.as (v := .bool true) (h := ?_)
  refine W.endF 65 [(0, .agg #[.int .i64 m, .slice A n c]), (1, .slice A2 n2 c2), (2, .bool true), (3, .slice A3 n3 c3), (4, .slice A4 n4 c4), (5, .pointer (some ⟨b2, 0, none⟩)), (10, .slice none 0 0), (11, .slice none 0 0), (12, .bool true)] (fun U11 => ?_)
  refine h3 _ _ ?_
  refine wp_block ?_
  refine loopK (fun am0 aa0 wl0 => ∃ (ys0 : List Int) (xs0 : List Int) (mo : Bool) (A0_3 : Option Addr) (n0_3 : Nat) (c0_3 : Nat) (A0_4 : Option Addr) (n0_4 : Nat) (c0_4 : Nat) (U0 : Nat → Value), aa0 = ⟨(fr U0 [(0, .agg #[.int .i64 m, .slice A n c]), (1, .slice A2 n2 c2), (2, .bool true), (3, .slice A0_3 n0_3 c0_3), (4, .slice A0_4 n0_4 c0_4), (5, .pointer (some ⟨b2, 0, none⟩)), (10, .slice none 0 0), (11, .slice none 0 0), (12, .bool mo)] 65 0).toArray, []⟩ ∧ (am0 = 2 * (18 - ys0.length - xs0.length) + mo.toNat) ∧ (FndQ (linked ps (openQ vs true)) m.toNat ps.length a ys0 xs0) ∧ (mo = false → shutE ps (openQ vs true) (inQ ys0 xs0) ps.length) ∧ (wl0.heap[b2]? = some (.cells #[.int .i64 m, .slice A n c] 32 (0, 0))) ∧ (Fm A0_3 n0_3 c0_3) ∧ (Rd wl0 1 A0_3 n0_3 (intsV ys0)) ∧ (Fm A0_4 n0_4 c0_4) ∧ (Rd wl0 1 A0_4 n0_4 (intsV xs0)) ∧ (Below w.heap.size w wl0)) (2 * (18 - ys.length - xs.length) + true.toNat) ?_ ?_
  · exact ⟨ys, xs, true, A3, n3, c3, A4, n4, c4, (fun iU9 => lk [(0, .agg #[.int .i64 m, .slice A n c]), (1, .slice A2 n2 c2), (2, .bool true), (3, .slice A3 n3 c3), (4, .slice A4 n4 c4), (5, .pointer (some ⟨b2, 0, none⟩)), (10, .slice none 0 0), (11, .slice none 0 0), (12, .bool true)] iU9 (U11 iU9)), (by kernel_rfl), rfl, hq0, (fun e => by cases e), x6, hfy, (Rd.kept hy c10), hfx, (Rd.kept hx c10), c10⟩
  rintro am0 aa0 wl0 K4 h4 ⟨ys0, xs0, mo, A0_3, n0_3, c0_3, A0_4, n0_4, c0_4, U0, rfl, rfl, hf, hsh, x6, fm0_3, rd0_3, fm0_4, rd0_4, c12⟩
  have hl0_3 := rd_ints_len rd0_3
  have hl0_4 := rd_ints_len rd0_4
  have hfl := hf.len
  refine wp_seq_k (fun K5 h5 => ?_)
  refine wp_seq_k (fun K6 h6 => ?_)
  refine W.region_quiet [(0, false)] (by kernel_rfl) ?_
  refine W.mv (v := .bool mo) (h := ?_)
  refine W.endF 65 [(0, .agg #[.int .i64 m, .slice A n c]), (1, .slice A2 n2 c2), (2, .bool true), (3, .slice A0_3 n0_3 c0_3), (4, .slice A0_4 n0_4 c0_4), (5, .pointer (some ⟨b2, 0, none⟩)), (10, .slice none 0 0), (11, .slice none 0 0), (12, .bool mo), (17, .bool mo)] (fun U13 => ?_)
  refine h6 _ _ ?_
  rcases Bool.eq_false_or_eq_true mo with q14 | q14
  · rw [q14]
    have qmo := q14
    refine wp_cond_true (by kernel_rfl) ?_
    refine wp_skip ?_
    refine h5 _ _ ?_
    refine wp_block ?_
    refine wp_seq_k (fun K7 h7 => ?_)
    refine W.region_quiet [(0, false)] (by kernel_rfl) ?_
    refine W.as (v := .bool false) (h := ?_)
    refine W.endF 65 [(0, .agg #[.int .i64 m, .slice A n c]), (1, .slice A2 n2 c2), (2, .bool true), (3, .slice A0_3 n0_3 c0_3), (4, .slice A0_4 n0_4 c0_4), (5, .pointer (some ⟨b2, 0, none⟩)), (10, .slice none 0 0), (11, .slice none 0 0), (12, .bool false), (17, .bool true)] (fun U15 => ?_)
    refine h7 _ _ ?_
    refine wp_seq_k (fun K8 h8 => ?_)
    refine W.region_quiet [(0, false)] (by kernel_rfl) ?_
    refine W.as (v := .int .i64 0) (h := ?_)
    refine W.endF 65 [(0, .agg #[.int .i64 m, .slice A n c]), (1, .slice A2 n2 c2), (2, .bool true), (3, .slice A0_3 n0_3 c0_3), (4, .slice A0_4 n0_4 c0_4), (5, .pointer (some ⟨b2, 0, none⟩)), (10, .slice none 0 0), (11, .slice none 0 0), (12, .bool false), (13, .int .i64 0), (17, .bool true)] (fun U16 => ?_)
    refine h8 _ _ ?_
    refine wp_block ?_
    refine loopK (fun am1 aa1 wl1 => ∃ (i : Nat) (yt : List Int) (xt : List Int) (mo2 : Bool) (A1_3 : Option Addr) (n1_3 : Nat) (c1_3 : Nat) (A1_4 : Option Addr) (n1_4 : Nat) (c1_4 : Nat) (U1 : Nat → Value), aa1 = ⟨(fr U1 [(0, .agg #[.int .i64 m, .slice A n c]), (1, .slice A2 n2 c2), (2, .bool true), (3, .slice A1_3 n1_3 c1_3), (4, .slice A1_4 n1_4 c1_4), (5, .pointer (some ⟨b2, 0, none⟩)), (10, .slice none 0 0), (11, .slice none 0 0), (12, .bool mo2), (13, .int .i64 ((i : Nat) : Int)), (17, .bool true)] 65 0).toArray, []⟩ ∧ (am1 = n - i) ∧ (i ≤ n) ∧ (FndQ (linked ps (openQ vs true)) m.toNat ps.length a yt xt) ∧ (mo2 = true → ys0.length + xs0.length < yt.length + xt.length) ∧ (mo2 = false → yt = ys0 ∧ xt = xs0 ∧ shutE ps (openQ vs true) (inQ yt xt) i) ∧ (wl1.heap[b2]? = some (.cells #[.int .i64 m, .slice A n c] 32 (0, 0))) ∧ (Fm A1_3 n1_3 c1_3) ∧ (Rd wl1 1 A1_3 n1_3 (intsV yt)) ∧ (Fm A1_4 n1_4 c1_4) ∧ (Rd wl1 1 A1_4 n1_4 (intsV xt)) ∧ (Below w.heap.size w wl1)) (n - 0) ?_ ?_
    · exact ⟨0, ys0, xs0, false, A0_3, n0_3, c0_3, A0_4, n0_4, c0_4, (fun iU9 => lk [(0, .agg #[.int .i64 m, .slice A n c]), (1, .slice A2 n2 c2), (2, .bool true), (3, .slice A0_3 n0_3 c0_3), (4, .slice A0_4 n0_4 c0_4), (5, .pointer (some ⟨b2, 0, none⟩)), (10, .slice none 0 0), (11, .slice none 0 0), (12, .bool false), (13, .int .i64 0), (17, .bool true)] iU9 (U16 iU9)), (by kernel_rfl), rfl, (Nat.zero_le _), hf, (fun e => by cases e), (fun _ => ⟨rfl, rfl, shutE_zero _ _ _⟩), x6, fm0_3, rd0_3, fm0_4, rd0_4, c12⟩
    rintro am1 aa1 wl1 K9 h9 ⟨i, yt, xt, mo2, A1_3, n1_3, c1_3, A1_4, n1_4, c1_4, U1, rfl, rfl, hi, hf2, hmt2, hmf2, x6, fm1_3, rd1_3, fm1_4, rd1_4, c17⟩
    have hl1_3 := rd_ints_len rd1_3
    have hl1_4 := rd_ints_len rd1_4
    have hfl2 := hf2.len
    refine wp_seq_k (fun K10 h10 => ?_)
    refine wp_seq_k (fun K11 h11 => ?_)
    refine W.region_quiet [(0, false), (1, false), (2, false), (3, false), (4, false)] (by kernel_rfl) ?_
    refine W.mv (v := .int .i64 ((i : Nat) : Int)) (h := ?_)
    refine W.q (v := .pointer (some ⟨b2, 1, none⟩)) (hr := (r_field (k := 1) rfl (by kernel_rfl) (by kernel_rfl))) (h := ?_)
    refine W.ld (v := .slice A n c) (hc := (eqS (blk_cell (j := 1) x6 (by kernel_rfl)))) (h := ?_)
    refine W.q (v := .int .i64 ((n : Nat) : Int)) (hr := (r_len (A := A) (n := n) (c := c) rfl (by kernel_rfl) (by kernel_rfl))) (h := ?_)
    by_cases q18 : (((i : Nat) : Int) : Int) < (((n : Nat) : Int) : Int)
    · refine W.q (v := .bool true) (hr := (r_lss (m := ((i : Nat) : Int)) (n := ((n : Nat) : Int)) rfl (by kernel_rfl) (by kernel_rfl) (decide_eq_true q18))) (h := ?_)
      refine W.endF 65 [(0, .agg #[.int .i64 m, .slice A n c]), (1, .slice A2 n2 c2), (2, .bool true), (3, .slice A1_3 n1_3 c1_3), (4, .slice A1_4 n1_4 c1_4), (5, .pointer (some ⟨b2, 0, none⟩)), (10, .slice none 0 0), (11, .slice none 0 0), (12, .bool mo2), (13, .int .i64 ((i : Nat) : Int)), (17, .bool true), (22, .bool true)] (fun U19 => ?_)
      refine h11 _ _ ?_
      refine wp_cond_true (by kernel_rfl) ?_
      refine wp_skip ?_
      refine h10 _ _ ?_
      refine wp_seq_k (fun K12 h12 => ?_)
      refine wp_block ?_
      refine wp_seq_k (fun K13 h13 => ?_)
      refine W.region_plain (row := none) [(0, false), (1, false), (2, false), (3, false), (4, false), (5, true), (6, true)] (by kernel_rfl) ?_
      have s20 := SG.self wl1 none
      refine W.q (v := .pointer (some ⟨b2, 1, none⟩)) (hr := (r_field (k := 1) rfl (by kernel_rfl) (by kernel_rfl))) (h := ?_)
      refine W.ld (v := .slice A n c) (hc := (sgS (blk_cell (j := 1) x6 (by kernel_rfl)) (by simp))) (h := ?_)
      refine W.mv (v := .int .i64 ((i : Nat) : Int)) (h := ?_)
      obtain ⟨x21, hx22⟩ := get_of (zs := ps) (k := i) (by have := hl; omega)
      obtain ⟨b23, o24, hA25, hb26, hc27, hc28, hc29, hc30⟩ := Rd.elPipe ha hx22
      refine W.q (v := .pointer (some ⟨b23, o24 + i * 4, none⟩)) (hr := (r_idx (n := n) (c := c) (k := i) rfl (by kernel_rfl) hA25 (by kernel_rfl) (by kernel_rfl) (by have := hl; omega))) (h := ?_)
      refine W.q (v := .agg #[.int .i64 x21.id, .int .i64 x21.fr, .int .i64 x21.to, .int .i64 x21.sz]) (hr := (r_load4 rfl (by kernel_rfl) (by kernel_rfl) (by kernel_rfl) (sgS (later c17 hc27) (by simp)) (sgS (later c17 hc28) (by simp)) (sgS (later c17 hc29) (by simp)) (sgS (later c17 hc30) (by simp)))) (h := ?_)
      refine W.sn (fun b => .pointer (some ⟨b, 0, none⟩)) #[.int .i64 0, .int .i64 0, .int .i64 0, .int .i64 0] 72 s20 rfl (by kernel_rfl) rfl (fun _ => by kernel_rfl) (fun b31 w32 hb33 k34 x35 s36 => ?_)
      have lo37 : w.heap.size ≤ b31 := by have := ((SG.belowR c17 s20 (fun kq e => by cases e))).size; omega
      have sp38 : Sp A1_3 n1_3 (some b31) := sp_new rd1_3 (by have := World.grownBy.size s20; have := hb33; omega)
      have sp39 : Sp A1_4 n1_4 (some b31) := sp_new rd1_4 (by have := World.grownBy.size s20; have := hb33; omega)
      have ne40 : b2 ≠ b31 := by have := blk_lt x6; have := World.grownBy.size s20; omega
      refine W.ss (v := .agg #[.int .i64 x21.id, .int .i64 x21.fr, .int .i64 x21.to, .int .i64 x21.sz]) (j := 0) (news := [.int .i64 x21.id, .int .i64 x21.fr, .int .i64 x21.to, .int .i64 x21.sz]) (cs' := #[.int .i64 x21.id, .int .i64 x21.fr, .int .i64 x21.to, .int .i64 x21.sz]) s36 rfl (by kernel_rfl) rfl rfl (by kernel_rfl) (by kernel_rfl) x35 (by kernel_rfl) (by kernel_rfl) (by simp) (by kernel_rfl) (by kernel_rfl) (.inr (by have := World.grownBy.size s20; have := hb33; omega)) (fun w41 g42 x43 s44 => ?_)
      refine W.endF 65 [(0, .agg #[.int .i64 m, .slice A n c]), (1, .slice A2 n2 c2), (2, .bool true), (3, .slice A1_3 n1_3 c1_3), (4, .slice A1_4 n1_4 c1_4), (5, .pointer (some ⟨b2, 0, none⟩)), (10, .slice none 0 0), (11, .slice none 0 0), (12, .bool mo2), (13, .int .i64 ((i : Nat) : Int)), (14, .pointer (some ⟨b31, 0, none⟩)), (17, .bool true), (22, .bool true)] (fun U45 => ?_)
      have x6 := SG.blk s44 x6 (by simp)
      have c46 := (SG.belowR c17 s44 (fun kq e => by cases e))
      have rd47 := Rd.kept rd1_3 (SG.below s44)
      have rd48 := Rd.kept rd1_4 (SG.below s44)
      refine h13 _ _ ?_
      refine wp_seq_k (fun K14 h14 => ?_)
      refine W.region_quiet [(0, false)] (by kernel_rfl) ?_
      refine W.as (v := .int .i64 0) (h := ?_)
      refine W.endF 65 [(0, .agg #[.int .i64 m, .slice A n c]), (1, .slice A2 n2 c2), (2, .bool true), (3, .slice A1_3 n1_3 c1_3), (4, .slice A1_4 n1_4 c1_4), (5, .pointer (some ⟨b2, 0, none⟩)), (10, .slice none 0 0), (11, .slice none 0 0), (12, .bool mo2), (13, .int .i64 ((i : Nat) : Int)), (14, .pointer (some ⟨b31, 0, none⟩)), (15, .int .i64 0), (17, .bool true), (22, .bool true)] (fun U49 => ?_)
      refine h14 _ _ ?_
      refine wp_block ?_
      refine loopK (fun am2 aa2 wl2 => ∃ (k : Nat) (yu : List Int) (xu : List Int) (mo3 : Bool) (A2_3 : Option Addr) (n2_3 : Nat) (c2_3 : Nat) (A2_4 : Option Addr) (n2_4 : Nat) (c2_4 : Nat) (U2 : Nat → Value), aa2 = ⟨(fr U2 [(0, .agg #[.int .i64 m, .slice A n c]), (1, .slice A2 n2 c2), (2, .bool true), (3, .slice A2_3 n2_3 c2_3), (4, .slice A2_4 n2_4 c2_4), (5, .pointer (some ⟨b2, 0, none⟩)), (10, .slice none 0 0), (11, .slice none 0 0), (12, .bool mo3), (13, .int .i64 ((i : Nat) : Int)), (14, .pointer (some ⟨b31, 0, none⟩)), (15, .int .i64 ((k : Nat) : Int)), (17, .bool true), (22, .bool true)] 65 0).toArray, []⟩ ∧ (am2 = 2 - k) ∧ (k ≤ 2) ∧ (FndQ (linked ps (openQ vs true)) m.toNat ps.length a yu xu) ∧ (mo3 = true → ys0.length + xs0.length < yu.length + xu.length) ∧ (mo3 = false → yu = ys0 ∧ xu = xs0 ∧ shutE ps (openQ vs true) (inQ yu xu) i ∧ (1 ≤ k → okP (openQ vs true) (inQ yu xu) i x21 x21.fr) ∧ (2 ≤ k → okP (openQ vs true) (inQ yu xu) i x21 x21.to)) ∧ (wl2.heap[b2]? = some (.cells #[.int .i64 m, .slice A n c] 32 (0, 0))) ∧ (wl2.heap[b31]? = some (.cells #[.int .i64 x21.id, .int .i64 x21.fr, .int .i64 x21.to, .int .i64 x21.sz] 72 (0, 0))) ∧ (Fm A2_3 n2_3 c2_3) ∧ (Rd wl2 1 A2_3 n2_3 (intsV yu)) ∧ (Fm A2_4 n2_4 c2_4) ∧ (Rd wl2 1 A2_4 n2_4 (intsV xu)) ∧ (Below w.heap.size w wl2)) (2 - 0) ?_ ?_
      · exact ⟨0, yt, xt, mo2, A1_3, n1_3, c1_3, A1_4, n1_4, c1_4, (fun iU9 => lk [(0, .agg #[.int .i64 m, .slice A n c]), (1, .slice A2 n2 c2), (2, .bool true), (3, .slice A1_3 n1_3 c1_3), (4, .slice A1_4 n1_4 c1_4), (5, .pointer (some ⟨b2, 0, none⟩)), (10, .slice none 0 0), (11, .slice none 0 0), (12, .bool mo2), (13, .int .i64 ((i : Nat) : Int)), (14, .pointer (some ⟨b31, 0, none⟩)), (15, .int .i64 0), (17, .bool true), (22, .bool true)] iU9 (U49 iU9)), (by kernel_rfl), rfl, (Nat.zero_le _), hf2, hmt2, (fun e => ⟨(hmf2 e).1, (hmf2 e).2.1, (hmf2 e).2.2, fun h => absurd h (by omega), fun h => absurd h (by omega)⟩), x6, x43, fm1_3, rd47, fm1_4, rd48, c46⟩
      rintro am2 aa2 wl2 K15 h15 ⟨k, yu, xu, mo3, A2_3, n2_3, c2_3, A2_4, n2_4, c2_4, U2, rfl, rfl, hk, hf3, hmt3, hmf3, x6, x43, fm2_3, rd2_3, fm2_4, rd2_4, c50⟩
      have hl2_3 := rd_ints_len rd2_3
      have hl2_4 := rd_ints_len rd2_4
      have hfl3 := hf3.len
      refine wp_seq_k (fun K16 h16 => ?_)
      refine wp_seq_k (fun K17 h17 => ?_)
      refine W.region_quiet [(0, false), (1, false)] (by kernel_rfl) ?_
      refine W.mv (v := .int .i64 ((k : Nat) : Int)) (h := ?_)
      by_cases q51 : (((k : Nat) : Int) : Int) < (2 : Int)
      · refine W.q (v := .bool true) (hr := (r_lss (m := ((k : Nat) : Int)) (n := 2) rfl (by kernel_rfl) (by kernel_rfl) (decide_eq_true q51))) (h := ?_)
        refine W.endF 65 [(0, .agg #[.int .i64 m, .slice A n c]), (1, .slice A2 n2 c2), (2, .bool true), (3, .slice A2_3 n2_3 c2_3), (4, .slice A2_4 n2_4 c2_4), (5, .pointer (some ⟨b2, 0, none⟩)), (10, .slice none 0 0), (11, .slice none 0 0), (12, .bool mo3), (13, .int .i64 ((i : Nat) : Int)), (14, .pointer (some ⟨b31, 0, none⟩)), (15, .int .i64 ((k : Nat) : Int)), (17, .bool true), (22, .bool true), (31, .bool true)] (fun U52 => ?_)
        refine h17 _ _ ?_
        refine wp_cond_true (by kernel_rfl) ?_
        refine wp_skip ?_
        refine h16 _ _ ?_
        refine wp_seq_k (fun K18 h18 => ?_)
        refine wp_block ?_
        refine wp_seq_k (fun K19 h19 => ?_)
        refine W.region_plain (row := none) [(0, false), (1, false), (2, false), (3, false), (4, true), (5, false), (6, false), (7, true), (8, false)] (by kernel_rfl) ?_
        have s53 := SG.self wl2 none
        refine W.q (v := .pointer (some ⟨b31, 1, none⟩)) (hr := (r_field (k := 1) rfl (by kernel_rfl) (by kernel_rfl))) (h := ?_)
        refine W.ld (v := .int .i64 x21.fr) (hc := (sgS (blk_cell (j := 1) x43 (by kernel_rfl)) (by simp))) (h := ?_)
        refine W.q (v := .pointer (some ⟨b31, 2, none⟩)) (hr := (r_field (k := 2) rfl (by kernel_rfl) (by kernel_rfl))) (h := ?_)
        refine W.ld (v := .int .i64 x21.to) (hc := (sgS (blk_cell (j := 2) x43 (by kernel_rfl)) (by simp))) (h := ?_)
        refine W.sn (fun b => .slice (some ⟨b, 0, none⟩) 2 2) #[.int .i64 x21.fr, .int .i64 x21.to] 3 s53 rfl (by kernel_rfl) rfl (fun _ => by kernel_rfl) (fun b54 w55 hb56 k57 x58 s59 => ?_)
        have lo60 : w.heap.size ≤ b54 := by have := ((SG.belowR c50 s53 (fun kq e => by cases e))).size; omega
        have sp61 : Sp A2_3 n2_3 (some b54) := sp_new rd2_3 (by have := World.grownBy.size s53; have := hb56; omega)
        have sp62 : Sp A2_4 n2_4 (some b54) := sp_new rd2_4 (by have := World.grownBy.size s53; have := hb56; omega)
        have ne63 : b2 ≠ b54 := by have := blk_lt x6; have := World.grownBy.size s53; omega
        have ne64 : b31 ≠ b54 := by have := blk_lt x43; have := World.grownBy.size s53; omega
        refine W.mv (v := .int .i64 ((k : Nat) : Int)) (h := ?_)
        have ho65 := own_blk (base := w.heap.size) (size := 1) (n := 2) x58 lo60 rfl (by omega)
        replace ho65 : World.ownsRow _ _ _ _ _ _ (intsV [x21.fr, x21.to]) := ho65
        have sp66 := sp_own (n' := 2) (c := 2) sp61
        have sp67 := sp_own (n' := 2) (c := 2) sp62
        have nb68 : Nb b2 (.slice (some ⟨b54, 0, none⟩) 2 2) := nb_new (by have := ne63; omega)
        have nb69 : Nb b31 (.slice (some ⟨b54, 0, none⟩) 2 2) := nb_new (by have := ne64; omega)
        have rd71 := own_rd ho65
        have hl72 := rd_ints_len rd71
        obtain ⟨x73, hx74⟩ := get_of (zs := [x21.fr, x21.to]) (k := k) (by have := hl72; omega)
        have hy2 := two_of hx74
        have hpx := hp x21 (List.mem_of_getElem? hx22)
        obtain ⟨b75, o76, hA77, hb78, hc79⟩ := Rd.elInt rd71 hx74
        refine W.q (v := .pointer (some ⟨b75, o76 + k, none⟩)) (hr := (r_idx1 (n := 2) (c := 2) (k := k) rfl (by kernel_rfl) hA77 (by kernel_rfl) (by kernel_rfl) (by have := hl72; omega))) (h := ?_)
        refine W.slq (v := .int .i64 x73) s59 rfl (r_load rfl (by kernel_rfl) (by kernel_rfl) (eqS hc79)) (by kernel_rfl) rfl ?_
        refine W.as (v := .int .i64 x73) (h := ?_)
        refine W.endF 65 [(0, .agg #[.int .i64 m, .slice A n c]), (1, .slice A2 n2 c2), (2, .bool true), (3, .slice A2_3 n2_3 c2_3), (4, .slice A2_4 n2_4 c2_4), (5, .pointer (some ⟨b2, 0, none⟩)), (10, .slice none 0 0), (11, .slice none 0 0), (12, .bool mo3), (13, .int .i64 ((i : Nat) : Int)), (14, .pointer (some ⟨b31, 0, none⟩)), (15, .int .i64 ((k : Nat) : Int)), (16, .int .i64 x73), (17, .bool true), (22, .bool true), (31, .bool true)] (fun U80 => ?_)
        have x6 := SG.blk s59 x6 (by simp)
        have x43 := SG.blk s59 x43 (by simp)
        have c81 := (SG.belowR c50 s59 (fun kq e => by cases e))
        have rd82 := Rd.kept rd2_3 (SG.below s59)
        have rd83 := Rd.kept rd2_4 (SG.below s59)
        refine h19 _ _ ?_
        refine wp_seq_k (fun K20 h20 => ?_)
        refine wp_seq_k (fun K21 h21 => ?_)
        refine W.region_plain (row := none) [(0, false), (1, false), (2, false), (3, false), (4, false), (5, true), (6, false), (7, false), (8, false), (9, true), (10, false), (11, false), (12, true), (13, false), (14, false)] (by kernel_rfl) ?_
        have s84 := SG.self w55 none
        refine W.mv (v := .slice A2 n2 c2) (h := ?_)
        refine W.q (v := .pointer (some ⟨b31, 0, none⟩)) (hr := (r_field0 rfl (by kernel_rfl) (by kernel_rfl))) (h := ?_)
        refine W.ld (v := .int .i64 x21.id) (hc := (sgS (blk_cell (j := 0) x43 (by kernel_rfl)) (by simp))) (h := ?_)
        refine W.mv (v := .int .i64 x73) (h := ?_)
        refine W.mv (v := .bool true) (h := ?_)
        refine W.sc (vs := [.slice A2 n2 c2, .int .i64 x21.id, .int .i64 x73, .bool true]) rfl rfl (by kernel_rfl) (by kernel_rfl) (by kernel_rfl) rfl (l4Blocked_true A2 n2 c2 vs x21.id x73 _ (Rd.kept hb (SG.belowR c81 s84 (fun kq e => by cases e))) (by omega)) ?_
        rintro e w86 ⟨rfl, b85⟩
        have s87 := SG.of_below s84 b85
        refine ⟨_, rfl, s87, ?_⟩
        rcases Bool.eq_false_or_eq_true (blocked vs x21.id x73 true) with q88 | q88
        · rw [q88]
          refine W.mv (v := .bool true) (h := ?_)
          refine W.sp s87 (h := ?_)
          refine W.sp s87 (h := ?_)
          refine W.sp s87 (h := ?_)
          refine W.sp s87 (h := ?_)
          refine W.sp s87 (h := ?_)
          refine W.sp s87 (h := ?_)
          refine W.sp s87 (h := ?_)
          refine W.q (v := .bool true) (hr := (r_pick (b := true) rfl (by kernel_rfl) (by kernel_rfl))) (h := ?_)
          refine W.endF 65 [(0, .agg #[.int .i64 m, .slice A n c]), (1, .slice A2 n2 c2), (2, .bool true), (3, .slice A2_3 n2_3 c2_3), (4, .slice A2_4 n2_4 c2_4), (5, .pointer (some ⟨b2, 0, none⟩)), (10, .slice none 0 0), (11, .slice none 0 0), (12, .bool mo3), (13, .int .i64 ((i : Nat) : Int)), (14, .pointer (some ⟨b31, 0, none⟩)), (15, .int .i64 ((k : Nat) : Int)), (16, .int .i64 x73), (17, .bool true), (22, .bool true), (31, .bool true), (56, .bool true)] (fun U89 => ?_)
          have x6 := SG.blk s87 x6 (by simp)
          have x43 := SG.blk s87 x43 (by simp)
          have c90 := (SG.belowR c81 s87 (fun kq e => by cases e))
          have rd91 := Rd.kept rd82 (SG.below s87)
          have rd92 := Rd.kept rd83 (SG.below s87)
          have rd93 := Rd.kept rd71 (SG.below s87)
          refine h21 _ _ ?_
          refine wp_cond_true (by kernel_rfl) ?_
          refine wp_exit ?_
          refine h18 _ _ ?_
          refine W.region_quiet [(0, false), (1, false), (2, false)] (by kernel_rfl) ?_
          refine W.mv (v := .int .i64 ((k : Nat) : Int)) (h := ?_)
          refine W.q (v := .int .i64 ((k + 1 : Nat) : Int)) (hr := (r_add (m := ((k : Nat) : Int)) (n := 1) (z := ((k + 1 : Nat) : Int)) rfl (by kernel_rfl) (by kernel_rfl) (by omega) (by omega))) (h := ?_)
          refine W.as (v := .int .i64 ((k + 1 : Nat) : Int)) (h := ?_)
          refine W.endF 65 [(0, .agg #[.int .i64 m, .slice A n c]), (1, .slice A2 n2 c2), (2, .bool true), (3, .slice A2_3 n2_3 c2_3), (4, .slice A2_4 n2_4 c2_4), (5, .pointer (some ⟨b2, 0, none⟩)), (10, .slice none 0 0), (11, .slice none 0 0), (12, .bool mo3), (13, .int .i64 ((i : Nat) : Int)), (14, .pointer (some ⟨b31, 0, none⟩)), (15, .int .i64 ((k + 1 : Nat) : Int)), (16, .int .i64 x73), (17, .bool true), (22, .bool true), (31, .bool true), (56, .bool true)] (fun U94 => ?_)
          exact h15 _ _ _ (by omega : (2 - (k + 1)) < _) ⟨k + 1, yu, xu, mo3, A2_3, n2_3, c2_3, A2_4, n2_4, c2_4, (fun iU9 => lk [(0, .agg #[.int .i64 m, .slice A n c]), (1, .slice A2 n2 c2), (2, .bool true), (3, .slice A2_3 n2_3 c2_3), (4, .slice A2_4 n2_4 c2_4), (5, .pointer (some ⟨b2, 0, none⟩)), (10, .slice none 0 0), (11, .slice none 0 0), (12, .bool mo3), (13, .int .i64 ((i : Nat) : Int)), (14, .pointer (some ⟨b31, 0, none⟩)), (15, .int .i64 ((k + 1 : Nat) : Int)), (16, .int .i64 x73), (17, .bool true), (22, .bool true), (31, .bool true), (56, .bool true)] iU9 (U94 iU9)), (by kernel_rfl), rfl, (by omega), hf3, hmt3, (fun e => ⟨(hmf3 e).1, (hmf3 e).2.1, (hmf3 e).2.2.1, two_next hy2 (hmf3 e).2.2.2.1 (okP_shut (openQ_no q88))⟩), x6, x43, fm2_3, rd91, fm2_4, rd92, c90⟩
        · rw [q88]
          refine W.mv (v := .bool false) (h := ?_)
          refine W.mv (v := .slice A2_3 n2_3 c2_3) (h := ?_)
          refine W.mv (v := .int .i64 x73) (h := ?_)
          refine W.sc (vs := [.slice A2_3 n2_3 c2_3, .int .i64 x73]) rfl rfl (by kernel_rfl) (by kernel_rfl) (by kernel_rfl) rfl (l1Has_any A2_3 n2_3 c2_3 yu x73 _ (Rd.kept rd82 (SG.below s87)) (by omega)) ?_
          rintro e w96 ⟨rfl, b95⟩
          have s97 := SG.of_below s87 b95
          refine ⟨_, rfl, s97, ?_⟩
          refine W.mv (v := .slice A2_4 n2_4 c2_4) (h := ?_)
          refine W.mv (v := .int .i64 ((i : Nat) : Int)) (h := ?_)
          refine W.sc (vs := [.slice A2_4 n2_4 c2_4, .int .i64 ((i : Nat) : Int)]) rfl rfl (by kernel_rfl) (by kernel_rfl) (by kernel_rfl) rfl (l1Has_any A2_4 n2_4 c2_4 xu ((i : Nat) : Int) _ (Rd.kept rd83 (SG.below s97)) (by omega)) ?_
          rintro e w99 ⟨rfl, b98⟩
          have s100 := SG.of_below s97 b98
          refine ⟨_, rfl, s100, ?_⟩
          by_cases q101 : (yu.contains x73) = (xu.contains ((i : Nat) : Int))
          · refine W.q (v := .bool true) (hr := (r_eqlB (m := (yu.contains x73)) (n := (xu.contains ((i : Nat) : Int))) rfl (by kernel_rfl) (by kernel_rfl) (by kernel_rfl) (beq_iff_eq.2 q101))) (h := ?_)
            refine W.q (v := .bool true) (hr := (r_pick (b := false) rfl (by kernel_rfl) (by kernel_rfl))) (h := ?_)
            refine W.endF 65 [(0, .agg #[.int .i64 m, .slice A n c]), (1, .slice A2 n2 c2), (2, .bool true), (3, .slice A2_3 n2_3 c2_3), (4, .slice A2_4 n2_4 c2_4), (5, .pointer (some ⟨b2, 0, none⟩)), (10, .slice none 0 0), (11, .slice none 0 0), (12, .bool mo3), (13, .int .i64 ((i : Nat) : Int)), (14, .pointer (some ⟨b31, 0, none⟩)), (15, .int .i64 ((k : Nat) : Int)), (16, .int .i64 x73), (17, .bool true), (22, .bool true), (31, .bool true), (56, .bool true)] (fun U102 => ?_)
            have x6 := SG.blk s100 x6 (by simp)
            have x43 := SG.blk s100 x43 (by simp)
            have c103 := (SG.belowR c81 s100 (fun kq e => by cases e))
            have rd104 := Rd.kept rd82 (SG.below s100)
            have rd105 := Rd.kept rd83 (SG.below s100)
            have rd106 := Rd.kept rd71 (SG.below s100)
            refine h21 _ _ ?_
            refine wp_cond_true (by kernel_rfl) ?_
            refine wp_exit ?_
            refine h18 _ _ ?_
            refine W.region_quiet [(0, false), (1, false), (2, false)] (by kernel_rfl) ?_
            refine W.mv (v := .int .i64 ((k : Nat) : Int)) (h := ?_)
            refine W.q (v := .int .i64 ((k + 1 : Nat) : Int)) (hr := (r_add (m := ((k : Nat) : Int)) (n := 1) (z := ((k + 1 : Nat) : Int)) rfl (by kernel_rfl) (by kernel_rfl) (by omega) (by omega))) (h := ?_)
            refine W.as (v := .int .i64 ((k + 1 : Nat) : Int)) (h := ?_)
            refine W.endF 65 [(0, .agg #[.int .i64 m, .slice A n c]), (1, .slice A2 n2 c2), (2, .bool true), (3, .slice A2_3 n2_3 c2_3), (4, .slice A2_4 n2_4 c2_4), (5, .pointer (some ⟨b2, 0, none⟩)), (10, .slice none 0 0), (11, .slice none 0 0), (12, .bool mo3), (13, .int .i64 ((i : Nat) : Int)), (14, .pointer (some ⟨b31, 0, none⟩)), (15, .int .i64 ((k + 1 : Nat) : Int)), (16, .int .i64 x73), (17, .bool true), (22, .bool true), (31, .bool true), (56, .bool true)] (fun U107 => ?_)
            exact h15 _ _ _ (by omega : (2 - (k + 1)) < _) ⟨k + 1, yu, xu, mo3, A2_3, n2_3, c2_3, A2_4, n2_4, c2_4, (fun iU9 => lk [(0, .agg #[.int .i64 m, .slice A n c]), (1, .slice A2 n2 c2), (2, .bool true), (3, .slice A2_3 n2_3 c2_3), (4, .slice A2_4 n2_4 c2_4), (5, .pointer (some ⟨b2, 0, none⟩)), (10, .slice none 0 0), (11, .slice none 0 0), (12, .bool mo3), (13, .int .i64 ((i : Nat) : Int)), (14, .pointer (some ⟨b31, 0, none⟩)), (15, .int .i64 ((k + 1 : Nat) : Int)), (16, .int .i64 x73), (17, .bool true), (22, .bool true), (31, .bool true), (56, .bool true)] iU9 (U107 iU9)), (by kernel_rfl), rfl, (by omega), hf3, hmt3, (fun e => ⟨(hmf3 e).1, (hmf3 e).2.1, (hmf3 e).2.2.1, two_next hy2 (hmf3 e).2.2.2.1 (okQ_same (m := m.toNat) (by omega) hf3.b1 (by omega) q101)⟩), x6, x43, fm2_3, rd104, fm2_4, rd105, c103⟩
          · refine W.q (v := .bool false) (hr := (r_eqlB (m := (yu.contains x73)) (n := (xu.contains ((i : Nat) : Int))) rfl (by kernel_rfl) (by kernel_rfl) (by kernel_rfl) (beq_eq_false_iff_ne.2 q101))) (h := ?_)
            refine W.q (v := .bool false) (hr := (r_pick (b := false) rfl (by kernel_rfl) (by kernel_rfl))) (h := ?_)
            refine W.endF 65 [(0, .agg #[.int .i64 m, .slice A n c]), (1, .slice A2 n2 c2), (2, .bool true), (3, .slice A2_3 n2_3 c2_3), (4, .slice A2_4 n2_4 c2_4), (5, .pointer (some ⟨b2, 0, none⟩)), (10, .slice none 0 0), (11, .slice none 0 0), (12, .bool mo3), (13, .int .i64 ((i : Nat) : Int)), (14, .pointer (some ⟨b31, 0, none⟩)), (15, .int .i64 ((k : Nat) : Int)), (16, .int .i64 x73), (17, .bool true), (22, .bool true), (31, .bool true), (56, .bool false)] (fun U108 => ?_)
            have x6 := SG.blk s100 x6 (by simp)
            have x43 := SG.blk s100 x43 (by simp)
            have c109 := (SG.belowR c81 s100 (fun kq e => by cases e))
            have rd110 := Rd.kept rd82 (SG.below s100)
            have rd111 := Rd.kept rd83 (SG.below s100)
            have rd112 := Rd.kept rd71 (SG.below s100)
            refine h21 _ _ ?_
            refine wp_cond_false (by kernel_rfl) ?_
            refine wp_skip ?_
            refine h20 _ _ ?_
            refine wp_seq_k (fun K22 h22 => ?_)
            refine W.region_plain (row := none) [(0, false), (1, false), (2, true), (3, false)] (by kernel_rfl) ?_
            have s113 := SG.self w99 none
            refine W.mv (v := .slice A2_3 n2_3 c2_3) (h := ?_)
            refine W.mv (v := .int .i64 x73) (h := ?_)
            refine W.sc (vs := [.slice A2_3 n2_3 c2_3, .int .i64 x73]) rfl rfl (by kernel_rfl) (by kernel_rfl) (by kernel_rfl) rfl (l1Put_any A2_3 n2_3 c2_3 yu x73 _ (Rd.kept rd110 (SG.below s113)) fm2_3 (by have h7 := hl2_3; first | omega)) ?_
            rintro e w122 ⟨A114, n115, c116, rfl, rd117, fm118, b121⟩
            have s123 := SG.of_below s113 b121
            refine ⟨_, rfl, s123, ?_⟩
            have hl119 := rd_ints_len rd117
            refine W.as (v := .slice A114 n115 c116) (h := ?_)
            refine W.endF 65 [(0, .agg #[.int .i64 m, .slice A n c]), (1, .slice A2 n2 c2), (2, .bool true), (3, .slice A114 n115 c116), (4, .slice A2_4 n2_4 c2_4), (5, .pointer (some ⟨b2, 0, none⟩)), (10, .slice none 0 0), (11, .slice none 0 0), (12, .bool mo3), (13, .int .i64 ((i : Nat) : Int)), (14, .pointer (some ⟨b31, 0, none⟩)), (15, .int .i64 ((k : Nat) : Int)), (16, .int .i64 x73), (17, .bool true), (22, .bool true), (31, .bool true), (56, .bool false)] (fun U124 => ?_)
            have x6 := SG.blk s123 x6 (by simp)
            have x43 := SG.blk s123 x43 (by simp)
            have c125 := (SG.belowR c109 s123 (fun kq e => by cases e))
            have rd126 := Rd.kept rd110 (SG.below s123)
            have rd127 := Rd.kept rd111 (SG.below s123)
            have rd128 := Rd.kept rd112 (SG.below s123)
            refine h22 _ _ ?_
            refine wp_seq_k (fun K23 h23 => ?_)
            refine W.region_plain (row := none) [(0, false), (1, false), (2, true), (3, false)] (by kernel_rfl) ?_
            have s129 := SG.self w122 none
            refine W.mv (v := .slice A2_4 n2_4 c2_4) (h := ?_)
            refine W.mv (v := .int .i64 ((i : Nat) : Int)) (h := ?_)
            refine W.sc (vs := [.slice A2_4 n2_4 c2_4, .int .i64 ((i : Nat) : Int)]) rfl rfl (by kernel_rfl) (by kernel_rfl) (by kernel_rfl) rfl (l1Put_any A2_4 n2_4 c2_4 xu ((i : Nat) : Int) _ (Rd.kept rd127 (SG.below s129)) fm2_4 (by have h7 := hl2_4; first | omega)) ?_
            rintro e w138 ⟨A130, n131, c132, rfl, rd133, fm134, b137⟩
            have s139 := SG.of_below s129 b137
            refine ⟨_, rfl, s139, ?_⟩
            have hl135 := rd_ints_len rd133
            refine W.as (v := .slice A130 n131 c132) (h := ?_)
            refine W.endF 65 [(0, .agg #[.int .i64 m, .slice A n c]), (1, .slice A2 n2 c2), (2, .bool true), (3, .slice A114 n115 c116), (4, .slice A130 n131 c132), (5, .pointer (some ⟨b2, 0, none⟩)), (10, .slice none 0 0), (11, .slice none 0 0), (12, .bool mo3), (13, .int .i64 ((i : Nat) : Int)), (14, .pointer (some ⟨b31, 0, none⟩)), (15, .int .i64 ((k : Nat) : Int)), (16, .int .i64 x73), (17, .bool true), (22, .bool true), (31, .bool true), (56, .bool false)] (fun U140 => ?_)
            have x6 := SG.blk s139 x6 (by simp)
            have x43 := SG.blk s139 x43 (by simp)
            have c141 := (SG.belowR c125 s139 (fun kq e => by cases e))
            have rd142 := Rd.kept rd126 (SG.below s139)
            have rd143 := Rd.kept rd127 (SG.below s139)
            have rd144 := Rd.kept rd128 (SG.below s139)
            have rd145 := Rd.kept rd117 (SG.below s139)
            refine h23 _ _ ?_
            refine W.region_quiet [(0, false)] (by kernel_rfl) ?_
            refine W.as (v := .bool true) (h := ?_)
            refine W.endF 65 [(0, .agg #[.int .i64 m, .slice A n c]), (1, .slice A2 n2 c2), (2, .bool true), (3, .slice A114 n115 c116), (4, .slice A130 n131 c132), (5, .pointer (some ⟨b2, 0, none⟩)), (10, .slice none 0 0), (11, .slice none 0 0), (12, .bool true), (13, .int .i64 ((i : Nat) : Int)), (14, .pointer (some ⟨b31, 0, none⟩)), (15, .int .i64 ((k : Nat) : Int)), (16, .int .i64 x73), (17, .bool true), (22, .bool true), (31, .bool true), (56, .bool false)] (fun U146 => ?_)
            refine h18 _ _ ?_
            refine W.region_quiet [(0, false), (1, false), (2, false)] (by kernel_rfl) ?_
            refine W.mv (v := .int .i64 ((k : Nat) : Int)) (h := ?_)
            refine W.q (v := .int .i64 ((k + 1 : Nat) : Int)) (hr := (r_add (m := ((k : Nat) : Int)) (n := 1) (z := ((k + 1 : Nat) : Int)) rfl (by kernel_rfl) (by kernel_rfl) (by omega) (by omega))) (h := ?_)
            refine W.as (v := .int .i64 ((k + 1 : Nat) : Int)) (h := ?_)
            refine W.endF 65 [(0, .agg #[.int .i64 m, .slice A n c]), (1, .slice A2 n2 c2), (2, .bool true), (3, .slice A114 n115 c116), (4, .slice A130 n131 c132), (5, .pointer (some ⟨b2, 0, none⟩)), (10, .slice none 0 0), (11, .slice none 0 0), (12, .bool true), (13, .int .i64 ((i : Nat) : Int)), (14, .pointer (some ⟨b31, 0, none⟩)), (15, .int .i64 ((k + 1 : Nat) : Int)), (16, .int .i64 x73), (17, .bool true), (22, .bool true), (31, .bool true), (56, .bool false)] (fun U147 => ?_)
            exact h15 _ _ _ (by omega : (2 - (k + 1)) < _) ⟨k + 1, putL yu x73, putL xu (i : Int), true, A114, n115, c116, A130, n131, c132, (fun iU9 => lk [(0, .agg #[.int .i64 m, .slice A n c]), (1, .slice A2 n2 c2), (2, .bool true), (3, .slice A114 n115 c116), (4, .slice A130 n131 c132), (5, .pointer (some ⟨b2, 0, none⟩)), (10, .slice none 0 0), (11, .slice none 0 0), (12, .bool true), (13, .int .i64 ((i : Nat) : Int)), (14, .pointer (some ⟨b31, 0, none⟩)), (15, .int .i64 ((k + 1 : Nat) : Int)), (16, .int .i64 x73), (17, .bool true), (22, .bool true), (31, .bool true), (56, .bool false)] iU9 (U147 iU9)), (by kernel_rfl), rfl, (by omega), (hf3.put (by omega) hx22 (by omega) (by omega) (openQ_yes q88) q101), (fun _ => by have h9 := put2_len2 q101; rcases Bool.eq_false_or_eq_true mo3 with e | e <;> first | (have h8 := hmt3 e; omega) | (have h8 := hmf3 e; rw [h8.1, h8.2.1] at h9; rw [h8.1, h8.2.1]; exact h9)), (fun e => by cases e), x6, x43, fm118, rd145, fm134, rd133, c141⟩
      · refine W.q (v := .bool false) (hr := (r_lss (m := ((k : Nat) : Int)) (n := 2) rfl (by kernel_rfl) (by kernel_rfl) (decide_eq_false q51))) (h := ?_)
        refine W.endF 65 [(0, .agg #[.int .i64 m, .slice A n c]), (1, .slice A2 n2 c2), (2, .bool true), (3, .slice A2_3 n2_3 c2_3), (4, .slice A2_4 n2_4 c2_4), (5, .pointer (some ⟨b2, 0, none⟩)), (10, .slice none 0 0), (11, .slice none 0 0), (12, .bool mo3), (13, .int .i64 ((i : Nat) : Int)), (14, .pointer (some ⟨b31, 0, none⟩)), (15, .int .i64 ((k : Nat) : Int)), (17, .bool true), (22, .bool true), (31, .bool false)] (fun U148 => ?_)
        refine h17 _ _ ?_
        refine wp_cond_false (by kernel_rfl) ?_
        refine wp_exit ?_
        refine h12 _ _ ?_
        refine W.region_quiet [(0, false), (1, false), (2, false)] (by kernel_rfl) ?_
        refine W.mv (v := .int .i64 ((i : Nat) : Int)) (h := ?_)
        refine W.q (v := .int .i64 ((i + 1 : Nat) : Int)) (hr := (r_add (m := ((i : Nat) : Int)) (n := 1) (z := ((i + 1 : Nat) : Int)) rfl (by kernel_rfl) (by kernel_rfl) (by omega) (by omega))) (h := ?_)
        refine W.as (v := .int .i64 ((i + 1 : Nat) : Int)) (h := ?_)
        refine W.endF 65 [(0, .agg #[.int .i64 m, .slice A n c]), (1, .slice A2 n2 c2), (2, .bool true), (3, .slice A2_3 n2_3 c2_3), (4, .slice A2_4 n2_4 c2_4), (5, .pointer (some ⟨b2, 0, none⟩)), (10, .slice none 0 0), (11, .slice none 0 0), (12, .bool mo3), (13, .int .i64 ((i + 1 : Nat) : Int)), (14, .pointer (some ⟨b31, 0, none⟩)), (15, .int .i64 ((k : Nat) : Int)), (17, .bool true), (22, .bool true), (31, .bool false)] (fun U149 => ?_)
        exact h9 _ _ _ (by omega : (n - (i + 1)) < _) ⟨i + 1, yu, xu, mo3, A2_3, n2_3, c2_3, A2_4, n2_4, c2_4, (fun iU9 => lk [(0, .agg #[.int .i64 m, .slice A n c]), (1, .slice A2 n2 c2), (2, .bool true), (3, .slice A2_3 n2_3 c2_3), (4, .slice A2_4 n2_4 c2_4), (5, .pointer (some ⟨b2, 0, none⟩)), (10, .slice none 0 0), (11, .slice none 0 0), (12, .bool mo3), (13, .int .i64 ((i + 1 : Nat) : Int)), (14, .pointer (some ⟨b31, 0, none⟩)), (15, .int .i64 ((k : Nat) : Int)), (17, .bool true), (22, .bool true), (31, .bool false)] iU9 (U149 iU9)), (by kernel_rfl), rfl, (by omega), hf3, hmt3, (fun e => ⟨(hmf3 e).1, (hmf3 e).2.1, (hmf3 e).2.2.1.next hx22 ((hmf3 e).2.2.2.1 (by omega)) ((hmf3 e).2.2.2.2 (by omega))⟩), x6, fm2_3, rd2_3, fm2_4, rd2_4, c50⟩
    · refine W.q (v := .bool false) (hr := (r_lss (m := ((i : Nat) : Int)) (n := ((n : Nat) : Int)) rfl (by kernel_rfl) (by kernel_rfl) (decide_eq_false q18))) (h := ?_)
      refine W.endF 65 [(0, .agg #[.int .i64 m, .slice A n c]), (1, .slice A2 n2 c2), (2, .bool true), (3, .slice A1_3 n1_3 c1_3), (4, .slice A1_4 n1_4 c1_4), (5, .pointer (some ⟨b2, 0, none⟩)), (10, .slice none 0 0), (11, .slice none 0 0), (12, .bool mo2), (13, .int .i64 ((i : Nat) : Int)), (17, .bool true), (22, .bool false)] (fun U150 => ?_)
      refine h11 _ _ ?_
      refine wp_cond_false (by kernel_rfl) ?_
      refine wp_exit ?_
      exact h4 _ _ _ (by rcases Bool.eq_false_or_eq_true mo2 with e | e <;> rw [e] <;> simp only [Bool.toNat_true, Bool.toNat_false, qmo] <;> first | (have h9 := hmt2 e; omega) | (rw [(hmf2 e).1, (hmf2 e).2.1]; omega) : (2 * (18 - yt.length - xt.length) + mo2.toNat) < _) ⟨yt, xt, mo2, A1_3, n1_3, c1_3, A1_4, n1_4, c1_4, (fun iU9 => lk [(0, .agg #[.int .i64 m, .slice A n c]), (1, .slice A2 n2 c2), (2, .bool true), (3, .slice A1_3 n1_3 c1_3), (4, .slice A1_4 n1_4 c1_4), (5, .pointer (some ⟨b2, 0, none⟩)), (10, .slice none 0 0), (11, .slice none 0 0), (12, .bool mo2), (13, .int .i64 ((i : Nat) : Int)), (17, .bool true), (22, .bool false)] iU9 (U150 iU9)), (by kernel_rfl), rfl, hf2, (fun e => by have h9 := (hmf2 e).2.2; rw [show i = ps.length by omega] at h9; exact h9), x6, fm1_3, rd1_3, fm1_4, rd1_4, c17⟩
  · rw [q14]
    have qmo := q14
    refine wp_cond_false (by kernel_rfl) ?_
    refine wp_exit ?_
    refine h2 _ _ ?_
    refine wp_seq_k (fun K24 h24 => ?_)
    refine W.region_quiet [(0, false), (1, false), (2, false), (3, false)] (by kernel_rfl) ?_
    refine W.mv (v := .slice A0_3 n0_3 c0_3) (h := ?_)
    refine W.mv (v := .slice A0_4 n0_4 c0_4) (h := ?_)
    refine W.as (v := .slice A0_3 n0_3 c0_3) (h := ?_)
    refine W.as (v := .slice A0_4 n0_4 c0_4) (h := ?_)
    refine W.endF 65 [(0, .agg #[.int .i64 m, .slice A n c]), (1, .slice A2 n2 c2), (2, .bool true), (3, .slice A0_3 n0_3 c0_3), (4, .slice A0_4 n0_4 c0_4), (5, .pointer (some ⟨b2, 0, none⟩)), (10, .slice A0_3 n0_3 c0_3), (11, .slice A0_4 n0_4 c0_4), (12, .bool false), (17, .bool false)] (fun U151 => ?_)
    refine h24 _ _ ?_
    refine wp_ret ?_
    try simp only [Exit.then]
    refine ret2 (v := .slice A0_3 n0_3 c0_3) (x := .slice A0_4 n0_4 c0_4) rfl (by kernel_rfl) (by kernel_rfl) ?_
    have e9 := hf.fin (by omega) (hsh qmo)
    exact ⟨_, _, _, _, _, _, rfl, (by rw [← e9.1]; exact rd0_3), fm0_3, (by rw [← e9.2]; exact rd0_4), fm0_4, c12⟩

end Go.Proofs.Ytnfmdkbelbppdaa
