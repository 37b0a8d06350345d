/- The best plan: the program's search. -/
import Derived.Test.YtnfmdkbelbppdaaPlanP
import Derived.Test.YtnfmdkbelbppdaaSch8
namespace Go.Proofs.Ytnfmdkbelbppdaa
open Go.RowKit
set_option linter.unusedVariables false
set_option linter.unusedSimpArgs false

def bpOf (r : Option (List Int × Int)) : List Int := match r with | some b => b.1 | none => []
def ltOf (r : Option (List Int × Int)) : Int := match r with | some b => b.2 | none => 0
theorem fd_some {fd : Bool} {b : List Int × Int} (h : fd = true) : (bif fd then some b else none) = some b := by rw [h]; rfl
theorem fd_none {fd : Bool} {b : List Int × Int} (h : fd = false) : (bif fd then some b else none) = none := by rw [h]; rfl
theorem best_fin {r : Option (List Int × Int)} {fd : Bool} {bp : List Int} {lt : Int} (h : r = bif fd then some (bp, lt) else none) (hn : fd = false → bp = [] ∧ lt = 0) : bp = bpOf r ∧ lt = ltOf r ∧ fd = r.isSome := by
  subst h
  cases fd with
  | true => exact ⟨rfl, rfl, rfl⟩
  | false => obtain ⟨rfl, rfl⟩ := hn rfl; exact ⟨rfl, rfl, rfl⟩
theorem bestP_len {ps : List Pp} {vs : List Vv} {s id : Int} {h : List Int → Int} (hv : vs.length ≤ 10) : (bpOf (bestOf (cutB ps vs s id) h (openIds vs))).length ≤ 10 := by
  have := openIds_len vs
  cases hr : bestOf (cutB ps vs s id) h (openIds vs) with
  | none => simp [bpOf]
  | some b => have := bestOf_len hr; show b.1.length ≤ 10; omega

set_option maxRecDepth 100000 in
set_option maxHeartbeats 1000000 in
theorem bestPlan_any (m : Int) (A : Option Addr) (n c : Nat) (ps : List Pp) (A2 : Option Addr) (n2 c2 : Nat) (vs : List Vv) (s id : Int) (g : FuncId) (lb : Array Value) (h : List Int → Int) (w : World) (ha : Rd w 4 A n (pipesV ps)) (hb : Rd w 4 A2 n2 (valvesV vs)) (hn : n ≤ 1048576) (hn2 : n2 ≤ 1048576) (hfm2 : Fm A2 n2 c2) (hv9 : GoodVal m ps vs) (hs : 1 ≤ s ∧ s ≤ m) (hfa : 0 ≤ findL ps id) (he : enters Try.prog g = true) (HG : ∀ W (A : Option Addr) (n c : Nat) (pl : List Int), Below w.heap.size w W → Rd W 1 A n (intsV pl) → n ≤ 1000000 → Calls Try.prog g (#[.slice A n c] ++ lb) W fun e w' => e = .returned (.int .i64 (h pl)) ∧ Below W.heap.size W w') :
    Calls Try.prog 64 #[.agg #[.int .i64 m, .slice A n c], .slice A2 n2 c2, .int .i64 s, .int .i64 id, .func (.func g) #[] lb] w fun e w' => ∃ A' d, e = .returned (.tuple #[.slice A' (bpOf (bestOf (cutB ps vs s id) h (openIds vs))).length d, .int .i64 (ltOf (bestOf (cutB ps vs s id) h (openIds vs))), .bool (bestOf (cutB ps vs s id) h (openIds vs)).isSome]) ∧ w'.ownsRow w.heap.size 3 1 (.slice A' (bpOf (bestOf (cutB ps vs s id) h (openIds vs))).length d) (bpOf (bestOf (cutB ps vs s id) h (openIds vs))).length (intsV (bpOf (bestOf (cutB ps vs s id) h (openIds vs)))) ∧ Below w.heap.size w w' := by
  have hl := rd_pipes_len ha
  have hl2 := rd_valves_len hb
  have hg := hv9.net
  have hgl := hg.lo
  have hgh := hg.hi
  have hp := hg.pipesIn
  have hlen10 := hg.len
  have hu := hv9.uniq
  have hvl := hv9.len
  have hfl := findL_lt ps id
  go_enter Try.func64, Try.ntmps64
  refine wp_seq_k (fun K1 h1 => ?_)
  refine W.region_plain (row := none) [(0, true), (1, false), (2, false), (3, false)] (by kernel_rfl) ?_
  have s1 := SG.self w none
  refine W.sn (fun b => .pointer (some ⟨b, 0, none⟩)) #[.int .i64 m, .slice A n c] 32 s1 rfl (by kernel_rfl) rfl (fun _ => by kernel_rfl) (fun b2 w3 hb4 k5 x6 s7 => ?_)
  have lo8 : w.heap.size ≤ b2 := by have := ((SG.belowR (Below.refl _ _) s1 (fun kq e => by cases e))).size; omega
  refine W.as (v := .slice none 0 0) (h := ?_)
  refine W.as (v := .int .i64 0) (h := ?_)
  refine W.as (v := .bool false) (h := ?_)
  refine W.endF 107 [(0, .agg #[.int .i64 m, .slice A n c]), (1, .slice A2 n2 c2), (2, .int .i64 s), (3, .int .i64 id), (4, .func (.func g) #[] lb), (5, .pointer (some ⟨b2, 0, none⟩)), (10, .slice none 0 0), (11, .int .i64 0), (12, .bool false)] (fun U9 => ?_)
  have c10 := (SG.belowR (Below.refl _ _) s7 (fun kq e => by cases e))
  refine h1 _ _ ?_
  refine wp_seq_k (fun K2 h2 => ?_)
  refine W.region_plain (row := none) [(0, true), (1, false)] (by kernel_rfl) ?_
  have s11 := SG.self w3 none
  refine W.sn (fun b => .slice (some ⟨b, 0, none⟩) 0 0) #[] 3 s11 rfl (by kernel_rfl) rfl (fun _ => by kernel_rfl) (fun b12 w13 hb14 k15 x16 s17 => ?_)
  have lo18 : w.heap.size ≤ b12 := by have := ((SG.belowR c10 s11 (fun kq e => by cases e))).size; omega
  have ne19 : b2 ≠ b12 := by have := blk_lt x6; have := World.grownBy.size s11; omega
  refine W.as (v := .slice (some ⟨b12, 0, none⟩) 0 0) (h := ?_)
  refine W.endF 107 [(0, .agg #[.int .i64 m, .slice A n c]), (1, .slice A2 n2 c2), (2, .int .i64 s), (3, .int .i64 id), (4, .func (.func g) #[] lb), (5, .pointer (some ⟨b2, 0, none⟩)), (10, .slice none 0 0), (11, .int .i64 0), (12, .bool false), (13, .slice (some ⟨b12, 0, none⟩) 0 0)] (fun U20 => ?_)
  have x6 := SG.blk s17 x6 (by simp)
  have c21 := (SG.belowR c10 s17 (fun kq e => by cases e))
  refine h2 _ _ ?_
  refine wp_seq_k (fun K3 h3 => ?_)
  refine wp_seq_k (fun K4 h4 => ?_)
  refine W.region_quiet [(0, false), (1, false), (2, false)] (by kernel_rfl) ?_
  refine W.mv (v := .slice A2 n2 c2) (h := ?_)
  refine W.q (v := .int .i64 ((n2 : Nat) : Int)) (hr := (r_len (A := A2) (n := n2) (c := c2) rfl (by kernel_rfl) (by kernel_rfl))) (h := ?_)
  refine W.mv (v := .int .i64 0) (h := ?_)
  refine W.endF 107 [(0, .agg #[.int .i64 m, .slice A n c]), (1, .slice A2 n2 c2), (2, .int .i64 s), (3, .int .i64 id), (4, .func (.func g) #[] lb), (5, .pointer (some ⟨b2, 0, none⟩)), (10, .slice none 0 0), (11, .int .i64 0), (12, .bool false), (13, .slice (some ⟨b12, 0, none⟩) 0 0), (26, .slice A2 n2 c2), (27, .int .i64 ((n2 : Nat) : Int)), (28, .int .i64 0)] (fun U22 => ?_)
  refine h4 _ _ ?_
  refine wp_block ?_
  have ho23 := own_empty (base := w.heap.size) (size := 1) x16 lo18
  replace ho23 : World.ownsRow _ _ _ _ _ _ (intsV []) := ho23
  have nb24 : Nb b2 (.slice (some ⟨b12, 0, none⟩) 0 0) := nb_new (by have := ne19; omega)
  refine loopK (fun am0 aa0 wl0 => ∃ (j : Nat) (A0_13 : Option Addr) (n0_13 : Nat) (c0_13 : Nat) (U0 : Nat → Value), aa0 = ⟨(fr U0 [(0, .agg #[.int .i64 m, .slice A n c]), (1, .slice A2 n2 c2), (2, .int .i64 s), (3, .int .i64 id), (4, .func (.func g) #[] lb), (5, .pointer (some ⟨b2, 0, none⟩)), (10, .slice none 0 0), (11, .int .i64 0), (12, .bool false), (13, .slice A0_13 n0_13 c0_13), (26, .slice A2 n2 c2), (27, .int .i64 ((n2 : Nat) : Int)), (28, .int .i64 ((j : Nat) : Int))] 107 0).toArray, []⟩ ∧ (am0 = n2 - j) ∧ (j ≤ n2) ∧ (n0_13 ≤ j) ∧ (wl0.heap[b2]? = some (.cells #[.int .i64 m, .slice A n c] 32 (0, 0))) ∧ (wl0.ownsRow w.heap.size 3 1 (.slice A0_13 n0_13 c0_13) n0_13 (intsV (openIds (vs.take j)))) ∧ (Nb b2 (.slice A0_13 n0_13 c0_13)) ∧ (Below w.heap.size w wl0)) (n2 - 0) ?_ ?_
  · exact ⟨0, (some ⟨b12, 0, none⟩), 0, 0, (fun iU9 => lk [(0, .agg #[.int .i64 m, .slice A n c]), (1, .slice A2 n2 c2), (2, .int .i64 s), (3, .int .i64 id), (4, .func (.func g) #[] lb), (5, .pointer (some ⟨b2, 0, none⟩)), (10, .slice none 0 0), (11, .int .i64 0), (12, .bool false), (13, .slice (some ⟨b12, 0, none⟩) 0 0), (26, .slice A2 n2 c2), (27, .int .i64 ((n2 : Nat) : Int)), (28, .int .i64 0)] iU9 (U22 iU9)), (by kernel_rfl), rfl, (Nat.zero_le _), (Nat.zero_le _), x6, ho23, nb24, c21⟩
  rintro am0 aa0 wl0 K5 h5 ⟨j, A0_13, n0_13, c0_13, U0, rfl, rfl, hj, hb13, x6, ho0_13, nb0_13_b2, c25⟩
  refine wp_seq_k (fun K6 h6 => ?_)
  refine W.region_quiet [(0, false)] (by kernel_rfl) ?_
  by_cases q26 : (((j : Nat) : Int) : Int) < (((n2 : Nat) : Int) : Int)
  · refine W.q (v := .bool true) (hr := (r_lss (m := ((j : Nat) : Int)) (n := ((n2 : Nat) : Int)) rfl (by kernel_rfl) (by kernel_rfl) (decide_eq_true q26))) (h := ?_)
    refine W.endF 107 [(0, .agg #[.int .i64 m, .slice A n c]), (1, .slice A2 n2 c2), (2, .int .i64 s), (3, .int .i64 id), (4, .func (.func g) #[] lb), (5, .pointer (some ⟨b2, 0, none⟩)), (10, .slice none 0 0), (11, .int .i64 0), (12, .bool false), (13, .slice A0_13 n0_13 c0_13), (26, .slice A2 n2 c2), (27, .int .i64 ((n2 : Nat) : Int)), (28, .int .i64 ((j : Nat) : Int)), (29, .bool true)] (fun U27 => ?_)
    refine h6 _ _ ?_
    refine wp_seq_k (fun K7 h7 => ?_)
    refine wp_cond_true (by kernel_rfl) ?_
    refine wp_skip ?_
    refine h7 _ _ ?_
    refine wp_seq_k (fun K8 h8 => ?_)
    refine wp_block ?_
    refine wp_seq_k (fun K9 h9 => ?_)
    refine W.region_plain (row := none) [(0, false), (1, false), (2, true), (3, true)] (by kernel_rfl) ?_
    have s28 := SG.self wl0 none
    obtain ⟨x29, hx30⟩ := get_of (zs := vs) (k := j) (by have := hl2; omega)
    obtain ⟨b31, o32, hA33, hb34, hc35, hc36, hc37, hc38⟩ := Rd.elValve hb hx30
    refine W.q (v := .pointer (some ⟨b31, o32 + j * 4, none⟩)) (hr := (r_idx (n := n2) (c := c2) (k := j) rfl (by kernel_rfl) hA33 (by kernel_rfl) (by kernel_rfl) (by have := hl2; omega))) (h := ?_)
    refine W.q (v := .agg #[.int .i64 x29.id, .int .i64 x29.pipe, .int .i64 x29.node, .bool x29.shut]) (hr := (r_load4 rfl (by kernel_rfl) (by kernel_rfl) (by kernel_rfl) (sgS (later c25 hc35) (by simp)) (sgS (later c25 hc36) (by simp)) (sgS (later c25 hc37) (by simp)) (sgS (later c25 hc38) (by simp)))) (h := ?_)
    refine W.sn (fun b => .pointer (some ⟨b, 0, none⟩)) #[.int .i64 0, .int .i64 0, .int .i64 0, .bool false] 60 s28 rfl (by kernel_rfl) rfl (fun _ => by kernel_rfl) (fun b39 w40 hb41 k42 x43 s44 => ?_)
    have lo45 : w.heap.size ≤ b39 := by have := ((SG.belowR c25 s28 (fun kq e => by cases e))).size; omega
    have ne46 : b2 ≠ b39 := by have := blk_lt x6; have := World.grownBy.size s28; omega
    have nb47 : Nb b39 (.slice A0_13 n0_13 c0_13) := nb_hi ho0_13 (Nat.le_of_eq hb41)
    have ho48 := own_kept ho0_13 k42
    refine W.ss (v := .agg #[.int .i64 x29.id, .int .i64 x29.pipe, .int .i64 x29.node, .bool x29.shut]) (j := 0) (news := [.int .i64 x29.id, .int .i64 x29.pipe, .int .i64 x29.node, .bool x29.shut]) (cs' := #[.int .i64 x29.id, .int .i64 x29.pipe, .int .i64 x29.node, .bool x29.shut]) s44 rfl (by kernel_rfl) rfl rfl (by kernel_rfl) (by kernel_rfl) x43 (by kernel_rfl) (by kernel_rfl) (by simp) (by kernel_rfl) (by kernel_rfl) (.inr (by have := World.grownBy.size s28; have := hb41; omega)) (fun w49 g50 x51 s52 => ?_)
    have ho53 := own_grown ho48 g50 (fun j e1 e2 => by cases e2; exact nb47 e1.symm)
    refine W.endF 107 [(0, .agg #[.int .i64 m, .slice A n c]), (1, .slice A2 n2 c2), (2, .int .i64 s), (3, .int .i64 id), (4, .func (.func g) #[] lb), (5, .pointer (some ⟨b2, 0, none⟩)), (10, .slice none 0 0), (11, .int .i64 0), (12, .bool false), (13, .slice A0_13 n0_13 c0_13), (15, .pointer (some ⟨b39, 0, none⟩)), (26, .slice A2 n2 c2), (27, .int .i64 ((n2 : Nat) : Int)), (28, .int .i64 ((j : Nat) : Int)), (29, .bool true)] (fun U54 => ?_)
    have x6 := SG.blk s52 x6 (by simp)
    have c55 := (SG.belowR c25 s52 (fun kq e => by cases e))
    refine h9 _ _ ?_
    refine wp_seq_k (fun K10 h10 => ?_)
    refine W.region_quiet [(0, false), (1, false), (2, false)] (by kernel_rfl) ?_
    refine W.q (v := .pointer (some ⟨b39, 3, none⟩)) (hr := (r_field (k := 3) rfl (by kernel_rfl) (by kernel_rfl))) (h := ?_)
    refine W.ld (v := .bool x29.shut) (hc := (eqS (blk_cell (j := 3) x51 (by kernel_rfl)))) (h := ?_)
    refine W.q (v := .bool (!x29.shut)) (hr := (r_not (b := x29.shut) rfl (by kernel_rfl) rfl)) (h := ?_)
    refine W.endF 107 [(0, .agg #[.int .i64 m, .slice A n c]), (1, .slice A2 n2 c2), (2, .int .i64 s), (3, .int .i64 id), (4, .func (.func g) #[] lb), (5, .pointer (some ⟨b2, 0, none⟩)), (10, .slice none 0 0), (11, .int .i64 0), (12, .bool false), (13, .slice A0_13 n0_13 c0_13), (15, .pointer (some ⟨b39, 0, none⟩)), (26, .slice A2 n2 c2), (27, .int .i64 ((n2 : Nat) : Int)), (28, .int .i64 ((j : Nat) : Int)), (29, .bool true), (34, .bool (!x29.shut))] (fun U56 => ?_)
    refine h10 _ _ ?_
    rcases Bool.eq_false_or_eq_true (!x29.shut) with q57 | q57
    · rw [q57]
      refine wp_cond_true (by kernel_rfl) ?_
      refine W.region_plain (row := (Value.ownBlock (.slice A0_13 n0_13 c0_13))) [(0, false), (1, false), (2, false), (3, true), (4, true), (5, false)] (by kernel_rfl) ?_
      have s58 := SG.self w49 (Value.ownBlock (.slice A0_13 n0_13 c0_13))
      refine W.mv (v := .slice A0_13 n0_13 c0_13) (h := ?_)
      refine W.q (v := .pointer (some ⟨b39, 0, none⟩)) (hr := (r_field0 rfl (by kernel_rfl) (by kernel_rfl))) (h := ?_)
      refine W.ld (v := .int .i64 x29.id) (hc := (sgS (blk_cell (j := 0) x51 (by kernel_rfl)) nb47)) (h := ?_)
      refine W.sn (fun b => .slice (some ⟨b, 0, none⟩) 1 1) #[.int .i64 x29.id] 3 s58 rfl (by kernel_rfl) rfl (fun _ => by kernel_rfl) (fun b59 w60 hb61 k62 x63 s64 => ?_)
      have lo65 : w.heap.size ≤ b59 := by have := ((SG.belowR c55 s58 (fun kq e => (World.ownsRow.lt ho53 kq e).1))).size; omega
      have ne66 : b2 ≠ b59 := by have := blk_lt x6; have := World.grownBy.size s58; omega
      have ne67 : b39 ≠ b59 := by have := blk_lt x51; have := World.grownBy.size s58; omega
      have nb68 : Nb b59 (.slice A0_13 n0_13 c0_13) := nb_hi ho53 (Nat.le_of_eq hb61)
      have ho69 := own_kept ho53 k62
      refine W.sap (e := 3) (size := 1) (base := w.heap.size) (m := 1) (v := .slice A0_13 n0_13 c0_13) (c := 1) s64 rfl rfl rfl rfl (by kernel_rfl) (by kernel_rfl) (by kernel_rfl) ho69 x63 (by kernel_rfl) (by kernel_rfl) (by omega) (by omega) (by have := ((SG.belowR c55 s64 (fun kq e => (World.ownsRow.lt ho53 kq e).1))).size; omega) (.inl rfl) (fun g70 cap71 w72 ho73 hg74 hat75 hlt76 s77 => ?_)
      have nb78 : Nb b2 (.slice (some ⟨g70, 0, none⟩) (n0_13 + 1) cap71) := nb_app nb0_13_b2 (Nat.lt_of_lt_of_le (blk_lt x6) (World.grownBy.size s64)) hat75
      have nb79 : Nb b39 (.slice (some ⟨g70, 0, none⟩) (n0_13 + 1) cap71) := nb_app nb47 (Nat.lt_of_lt_of_le (blk_lt x51) (World.grownBy.size s64)) hat75
      have nb80 : Nb b59 (.slice (some ⟨g70, 0, none⟩) (n0_13 + 1) cap71) := nb_app nb68 (blk_lt x63) hat75
      have x63 := (hg74.block _ (blk_lt x63) nb68).trans x63
      have ho73 := own_snoc ho73
      refine W.as (v := .slice (some ⟨g70, 0, none⟩) (n0_13 + 1) cap71) (h := ?_)
      refine W.endF 107 [(0, .agg #[.int .i64 m, .slice A n c]), (1, .slice A2 n2 c2), (2, .int .i64 s), (3, .int .i64 id), (4, .func (.func g) #[] lb), (5, .pointer (some ⟨b2, 0, none⟩)), (10, .slice none 0 0), (11, .int .i64 0), (12, .bool false), (13, .slice (some ⟨g70, 0, none⟩) (n0_13 + 1) cap71), (15, .pointer (some ⟨b39, 0, none⟩)), (26, .slice A2 n2 c2), (27, .int .i64 ((n2 : Nat) : Int)), (28, .int .i64 ((j : Nat) : Int)), (29, .bool true), (34, .bool true)] (fun U81 => ?_)
      have x6 := SG.blk s77 x6 nb0_13_b2
      have x51 := SG.blk s77 x51 nb47
      have c82 := (SG.belowR c55 s77 (fun kq e => (World.ownsRow.lt ho53 kq e).1))
      refine h8 _ _ ?_
      refine W.region_quiet [(0, false), (1, false)] (by kernel_rfl) ?_
      refine W.q (v := .int .i64 ((j + 1 : Nat) : Int)) (hr := (r_add (m := ((j : Nat) : Int)) (n := 1) (z := ((j + 1 : Nat) : Int)) rfl (by kernel_rfl) (by kernel_rfl) (by omega) (by omega))) (h := ?_)
      refine W.mv (v := .int .i64 ((j + 1 : Nat) : Int)) (h := ?_)
      refine W.endF 107 [(0, .agg #[.int .i64 m, .slice A n c]), (1, .slice A2 n2 c2), (2, .int .i64 s), (3, .int .i64 id), (4, .func (.func g) #[] lb), (5, .pointer (some ⟨b2, 0, none⟩)), (10, .slice none 0 0), (11, .int .i64 0), (12, .bool false), (13, .slice (some ⟨g70, 0, none⟩) (n0_13 + 1) cap71), (15, .pointer (some ⟨b39, 0, none⟩)), (26, .slice A2 n2 c2), (27, .int .i64 ((n2 : Nat) : Int)), (28, .int .i64 ((j + 1 : Nat) : Int)), (29, .bool true), (34, .bool true)] (fun U83 => ?_)
      exact h5 _ _ _ (by omega : (n2 - (j + 1)) < _) ⟨j + 1, (some ⟨g70, 0, none⟩), (n0_13 + 1), cap71, (fun iU9 => lk [(0, .agg #[.int .i64 m, .slice A n c]), (1, .slice A2 n2 c2), (2, .int .i64 s), (3, .int .i64 id), (4, .func (.func g) #[] lb), (5, .pointer (some ⟨b2, 0, none⟩)), (10, .slice none 0 0), (11, .int .i64 0), (12, .bool false), (13, .slice (some ⟨g70, 0, none⟩) (n0_13 + 1) cap71), (15, .pointer (some ⟨b39, 0, none⟩)), (26, .slice A2 n2 c2), (27, .int .i64 ((n2 : Nat) : Int)), (28, .int .i64 ((j + 1 : Nat) : Int)), (29, .bool true), (34, .bool true)] iU9 (U83 iU9)), (by kernel_rfl), rfl, (by omega), (by omega), x6, (by rw [openIds_yes hx30 (by simpa using q57)]; exact ho73), nb78, c82⟩
    · rw [q57]
      refine wp_cond_false (by kernel_rfl) ?_
      refine wp_skip ?_
      refine h8 _ _ ?_
      refine W.region_quiet [(0, false), (1, false)] (by kernel_rfl) ?_
      refine W.q (v := .int .i64 ((j + 1 : Nat) : Int)) (hr := (r_add (m := ((j : Nat) : Int)) (n := 1) (z := ((j + 1 : Nat) : Int)) rfl (by kernel_rfl) (by kernel_rfl) (by omega) (by omega))) (h := ?_)
      refine W.mv (v := .int .i64 ((j + 1 : Nat) : Int)) (h := ?_)
      refine W.endF 107 [(0, .agg #[.int .i64 m, .slice A n c]), (1, .slice A2 n2 c2), (2, .int .i64 s), (3, .int .i64 id), (4, .func (.func g) #[] lb), (5, .pointer (some ⟨b2, 0, none⟩)), (10, .slice none 0 0), (11, .int .i64 0), (12, .bool false), (13, .slice A0_13 n0_13 c0_13), (15, .pointer (some ⟨b39, 0, none⟩)), (26, .slice A2 n2 c2), (27, .int .i64 ((n2 : Nat) : Int)), (28, .int .i64 ((j + 1 : Nat) : Int)), (29, .bool true), (34, .bool false)] (fun U84 => ?_)
      exact h5 _ _ _ (by omega : (n2 - (j + 1)) < _) ⟨j + 1, A0_13, n0_13, c0_13, (fun iU9 => lk [(0, .agg #[.int .i64 m, .slice A n c]), (1, .slice A2 n2 c2), (2, .int .i64 s), (3, .int .i64 id), (4, .func (.func g) #[] lb), (5, .pointer (some ⟨b2, 0, none⟩)), (10, .slice none 0 0), (11, .int .i64 0), (12, .bool false), (13, .slice A0_13 n0_13 c0_13), (15, .pointer (some ⟨b39, 0, none⟩)), (26, .slice A2 n2 c2), (27, .int .i64 ((n2 : Nat) : Int)), (28, .int .i64 ((j + 1 : Nat) : Int)), (29, .bool true), (34, .bool false)] iU9 (U84 iU9)), (by kernel_rfl), rfl, (by omega), (by omega), x6, (by rw [openIds_no hx30 (by simpa using q57)]; exact ho53), nb0_13_b2, c55⟩
  · refine W.q (v := .bool false) (hr := (r_lss (m := ((j : Nat) : Int)) (n := ((n2 : Nat) : Int)) rfl (by kernel_rfl) (by kernel_rfl) (decide_eq_false q26))) (h := ?_)
    refine W.endF 107 [(0, .agg #[.int .i64 m, .slice A n c]), (1, .slice A2 n2 c2), (2, .int .i64 s), (3, .int .i64 id), (4, .func (.func g) #[] lb), (5, .pointer (some ⟨b2, 0, none⟩)), (10, .slice none 0 0), (11, .int .i64 0), (12, .bool false), (13, .slice A0_13 n0_13 c0_13), (26, .slice A2 n2 c2), (27, .int .i64 ((n2 : Nat) : Int)), (28, .int .i64 ((j : Nat) : Int)), (29, .bool false)] (fun U85 => ?_)
    refine h6 _ _ ?_
    refine wp_seq_k (fun K11 h11 => ?_)
    refine wp_cond_false (by kernel_rfl) ?_
    refine wp_exit ?_
    refine h3 _ _ ?_
    refine wp_seq_k (fun K12 h12 => ?_)
    refine W.region_plain (row := none) [(0, true), (1, false), (2, false), (3, false)] (by kernel_rfl) ?_
    have s86 := SG.self wl0 none
    refine W.sn (fun b => .slice (some ⟨b, 0, none⟩) 0 0) #[] 3 s86 rfl (by kernel_rfl) rfl (fun _ => by kernel_rfl) (fun b87 w88 hb89 k90 x91 s92 => ?_)
    have lo93 : w.heap.size ≤ b87 := by have := ((SG.belowR c25 s86 (fun kq e => by cases e))).size; omega
    have ne94 : b2 ≠ b87 := by have := blk_lt x6; have := World.grownBy.size s86; omega
    have nb95 : Nb b87 (.slice A0_13 n0_13 c0_13) := nb_hi ho0_13 (Nat.le_of_eq hb89)
    have ho96 := own_kept ho0_13 k90
    refine W.as (v := .slice (some ⟨b87, 0, none⟩) 0 0) (h := ?_)
    refine W.as (v := .int .i64 0) (h := ?_)
    refine W.as (v := .bool false) (h := ?_)
    refine W.endF 107 [(0, .agg #[.int .i64 m, .slice A n c]), (1, .slice A2 n2 c2), (2, .int .i64 s), (3, .int .i64 id), (4, .func (.func g) #[] lb), (5, .pointer (some ⟨b2, 0, none⟩)), (10, .slice none 0 0), (11, .int .i64 0), (12, .bool false), (13, .slice A0_13 n0_13 c0_13), (16, .slice (some ⟨b87, 0, none⟩) 0 0), (17, .int .i64 0), (18, .bool false), (26, .slice A2 n2 c2), (27, .int .i64 ((n2 : Nat) : Int)), (28, .int .i64 ((j : Nat) : Int)), (29, .bool false)] (fun U97 => ?_)
    have x6 := SG.blk s92 x6 (by simp)
    have c98 := (SG.belowR c25 s92 (fun kq e => by cases e))
    refine h12 _ _ ?_
    refine wp_seq_k (fun K13 h13 => ?_)
    refine wp_seq_k (fun K14 h14 => ?_)
    refine W.region_quiet [(0, false), (1, false), (2, false), (3, false)] (by kernel_rfl) ?_
    refine W.mv (v := .slice A0_13 n0_13 c0_13) (h := ?_)
    refine W.q (v := .int .i64 ((n0_13 : Nat) : Int)) (hr := (r_len (A := A0_13) (n := n0_13) (c := c0_13) rfl (by kernel_rfl) (by kernel_rfl))) (h := ?_)
    refine W.q (v := .int .i64 ((2 ^ n0_13 : Nat) : Int)) (hr := (r_shl (k := n0_13) (yk := .i64) rfl (by kernel_rfl) (by kernel_rfl) (by omega))) (h := ?_)
    refine W.mv (v := .int .i64 0) (h := ?_)
    refine W.endF 107 [(0, .agg #[.int .i64 m, .slice A n c]), (1, .slice A2 n2 c2), (2, .int .i64 s), (3, .int .i64 id), (4, .func (.func g) #[] lb), (5, .pointer (some ⟨b2, 0, none⟩)), (10, .slice none 0 0), (11, .int .i64 0), (12, .bool false), (13, .slice A0_13 n0_13 c0_13), (16, .slice (some ⟨b87, 0, none⟩) 0 0), (17, .int .i64 0), (18, .bool false), (26, .slice A2 n2 c2), (27, .int .i64 ((n2 : Nat) : Int)), (28, .int .i64 ((j : Nat) : Int)), (29, .bool false), (44, .int .i64 ((2 ^ n0_13 : Nat) : Int)), (45, .int .i64 0)] (fun U99 => ?_)
    refine h14 _ _ ?_
    refine wp_block ?_
    have e13 : openIds (vs.take j) = (openIds vs) := by rw [List.take_of_length_le (by omega)]
    have holn := openIds_len vs
    have ho100 := ho96
    rw [e13] at ho100
    have ho101 := own_empty (base := w.heap.size) (size := 1) x91 lo93
    replace ho101 : World.ownsRow _ _ _ _ _ _ (intsV []) := ho101
    have nr102 : NbR (.slice (some ⟨b87, 0, none⟩) 0 0) (.slice A0_13 n0_13 c0_13) := nbr_new nb95
    have nb103 : Nb b2 (.slice (some ⟨b87, 0, none⟩) 0 0) := nb_new (by have := ne94; omega)
    have rd105 := own_rd ho100
    have hl106 := rd_ints_len rd105
    have fm107 := own_fm ho100
    have sp108 := sp_of_nbr (n := n0_13) (NbR.symm nr102)
    have sp109 := sp_of_nb (n := n0_13) nb0_13_b2
    have hpw : 2 ^ n0_13 ≤ 2 ^ 10 := Nat.pow_le_pow_right (by omega) (by omega)
    refine loopK (fun am1 aa1 wl1 => ∃ (t : Nat) (bp : List Int) (lt : Int) (fd : Bool) (A1_16 : Option Addr) (n1_16 : Nat) (c1_16 : Nat) (U1 : Nat → Value), aa1 = ⟨(fr U1 [(0, .agg #[.int .i64 m, .slice A n c]), (1, .slice A2 n2 c2), (2, .int .i64 s), (3, .int .i64 id), (4, .func (.func g) #[] lb), (5, .pointer (some ⟨b2, 0, none⟩)), (10, .slice none 0 0), (11, .int .i64 0), (12, .bool false), (13, .slice A0_13 n0_13 c0_13), (16, .slice A1_16 n1_16 c1_16), (17, .int .i64 lt), (18, .bool fd), (26, .slice A2 n2 c2), (27, .int .i64 ((n2 : Nat) : Int)), (28, .int .i64 ((j : Nat) : Int)), (29, .bool false), (44, .int .i64 ((2 ^ n0_13 : Nat) : Int)), (45, .int .i64 ((t : Nat) : Int))] 107 0).toArray, []⟩ ∧ (am1 = 2 ^ n0_13 - t) ∧ (t ≤ 2 ^ n0_13) ∧ (bestTo (cutB ps vs s id) h (openIds vs) t = bif fd then some (bp, lt) else none) ∧ (fd = false → bp = [] ∧ lt = 0) ∧ (n1_16 ≤ 10) ∧ (wl1.heap[b2]? = some (.cells #[.int .i64 m, .slice A n c] 32 (0, 0))) ∧ (wl1.ownsRow w.heap.size 3 1 (.slice A1_16 n1_16 c1_16) n1_16 (intsV bp)) ∧ (Nb b2 (.slice A1_16 n1_16 c1_16)) ∧ (Rd wl1 1 A0_13 n0_13 (intsV (openIds vs))) ∧ (Sp A0_13 n0_13 (Value.ownBlock (.slice A1_16 n1_16 c1_16))) ∧ (Below w.heap.size w wl1)) (2 ^ n0_13 - 0) ?_ ?_
    · exact ⟨0, [], 0, false, (some ⟨b87, 0, none⟩), 0, 0, (fun iU9 => lk [(0, .agg #[.int .i64 m, .slice A n c]), (1, .slice A2 n2 c2), (2, .int .i64 s), (3, .int .i64 id), (4, .func (.func g) #[] lb), (5, .pointer (some ⟨b2, 0, none⟩)), (10, .slice none 0 0), (11, .int .i64 0), (12, .bool false), (13, .slice A0_13 n0_13 c0_13), (16, .slice (some ⟨b87, 0, none⟩) 0 0), (17, .int .i64 0), (18, .bool false), (26, .slice A2 n2 c2), (27, .int .i64 ((n2 : Nat) : Int)), (28, .int .i64 ((j : Nat) : Int)), (29, .bool false), (44, .int .i64 ((2 ^ n0_13 : Nat) : Int)), (45, .int .i64 0)] iU9 (U99 iU9)), (by kernel_rfl), rfl, (Nat.zero_le _), rfl, (fun _ => ⟨rfl, rfl⟩), (by omega), x6, ho101, nb103, rd105, sp108, c98⟩
    rintro am1 aa1 wl1 K15 h15 ⟨t, bp, lt, fd, A1_16, n1_16, c1_16, U1, rfl, rfl, ht, hst, hnf, hb16, x6, ho1_16, nb1_16_b2, rd1_13, sp1_13_16, c110⟩
    refine wp_seq_k (fun K16 h16 => ?_)
    refine W.region_quiet [(0, false)] (by kernel_rfl) ?_
    by_cases q111 : (((t : Nat) : Int) : Int) < (((2 ^ n0_13 : Nat) : Int) : Int)
    · refine W.q (v := .bool true) (hr := (r_lss (m := ((t : Nat) : Int)) (n := ((2 ^ n0_13 : Nat) : Int)) rfl (by kernel_rfl) (by kernel_rfl) (decide_eq_true q111))) (h := ?_)
      refine W.endF 107 [(0, .agg #[.int .i64 m, .slice A n c]), (1, .slice A2 n2 c2), (2, .int .i64 s), (3, .int .i64 id), (4, .func (.func g) #[] lb), (5, .pointer (some ⟨b2, 0, none⟩)), (10, .slice none 0 0), (11, .int .i64 0), (12, .bool false), (13, .slice A0_13 n0_13 c0_13), (16, .slice A1_16 n1_16 c1_16), (17, .int .i64 lt), (18, .bool fd), (26, .slice A2 n2 c2), (27, .int .i64 ((n2 : Nat) : Int)), (28, .int .i64 ((j : Nat) : Int)), (29, .bool false), (44, .int .i64 ((2 ^ n0_13 : Nat) : Int)), (45, .int .i64 ((t : Nat) : Int)), (46, .bool true)] (fun U112 => ?_)
      refine h16 _ _ ?_
      refine wp_seq_k (fun K17 h17 => ?_)
      refine wp_cond_true (by kernel_rfl) ?_
      refine wp_skip ?_
      refine h17 _ _ ?_
      refine wp_seq_k (fun K18 h18 => ?_)
      refine wp_block ?_
      refine wp_seq_k (fun K19 h19 => ?_)
      refine W.region_quiet [(0, false), (1, false)] (by kernel_rfl) ?_
      refine W.mv (v := .int .i64 ((t : Nat) : Int)) (h := ?_)
      refine W.as (v := .int .i64 ((t : Nat) : Int)) (h := ?_)
      refine W.endF 107 [(0, .agg #[.int .i64 m, .slice A n c]), (1, .slice A2 n2 c2), (2, .int .i64 s), (3, .int .i64 id), (4, .func (.func g) #[] lb), (5, .pointer (some ⟨b2, 0, none⟩)), (10, .slice none 0 0), (11, .int .i64 0), (12, .bool false), (13, .slice A0_13 n0_13 c0_13), (16, .slice A1_16 n1_16 c1_16), (17, .int .i64 lt), (18, .bool fd), (19, .int .i64 ((t : Nat) : Int)), (26, .slice A2 n2 c2), (27, .int .i64 ((n2 : Nat) : Int)), (28, .int .i64 ((j : Nat) : Int)), (29, .bool false), (44, .int .i64 ((2 ^ n0_13 : Nat) : Int)), (45, .int .i64 ((t : Nat) : Int)), (46, .bool true)] (fun U113 => ?_)
      refine h19 _ _ ?_
      refine wp_seq_k (fun K20 h20 => ?_)
      refine W.region_plain (row := none) [(0, true), (1, false)] (by kernel_rfl) ?_
      have s114 := SG.self wl1 none
      refine W.sn (fun b => .slice (some ⟨b, 0, none⟩) 0 0) #[] 3 s114 rfl (by kernel_rfl) rfl (fun _ => by kernel_rfl) (fun b115 w116 hb117 k118 x119 s120 => ?_)
      have lo121 : w.heap.size ≤ b115 := by have := ((SG.belowR c110 s114 (fun kq e => by cases e))).size; omega
      have sp122 : Sp A0_13 n0_13 (some b115) := sp_new rd1_13 (by have := World.grownBy.size s114; have := hb117; omega)
      have ne123 : b2 ≠ b115 := by have := blk_lt x6; have := World.grownBy.size s114; omega
      have nb124 : Nb b115 (.slice A1_16 n1_16 c1_16) := nb_hi ho1_16 (Nat.le_of_eq hb117)
      have ho125 := own_kept ho1_16 k118
      refine W.as (v := .slice (some ⟨b115, 0, none⟩) 0 0) (h := ?_)
      refine W.endF 107 [(0, .agg #[.int .i64 m, .slice A n c]), (1, .slice A2 n2 c2), (2, .int .i64 s), (3, .int .i64 id), (4, .func (.func g) #[] lb), (5, .pointer (some ⟨b2, 0, none⟩)), (10, .slice none 0 0), (11, .int .i64 0), (12, .bool false), (13, .slice A0_13 n0_13 c0_13), (16, .slice A1_16 n1_16 c1_16), (17, .int .i64 lt), (18, .bool fd), (19, .int .i64 ((t : Nat) : Int)), (20, .slice (some ⟨b115, 0, none⟩) 0 0), (26, .slice A2 n2 c2), (27, .int .i64 ((n2 : Nat) : Int)), (28, .int .i64 ((j : Nat) : Int)), (29, .bool false), (44, .int .i64 ((2 ^ n0_13 : Nat) : Int)), (45, .int .i64 ((t : Nat) : Int)), (46, .bool true)] (fun U126 => ?_)
      have x6 := SG.blk s120 x6 (by simp)
      have c127 := (SG.belowR c110 s120 (fun kq e => by cases e))
      have rd128 := Rd.kept rd1_13 (SG.below s120)
      refine h20 _ _ ?_
      refine wp_seq_k (fun K21 h21 => ?_)
      refine wp_seq_k (fun K22 h22 => ?_)
      refine W.region_quiet [(0, false), (1, false), (2, false)] (by kernel_rfl) ?_
      refine W.mv (v := .slice A0_13 n0_13 c0_13) (h := ?_)
      refine W.q (v := .int .i64 ((n0_13 : Nat) : Int)) (hr := (r_len (A := A0_13) (n := n0_13) (c := c0_13) rfl (by kernel_rfl) (by kernel_rfl))) (h := ?_)
      refine W.mv (v := .int .i64 0) (h := ?_)
      refine W.endF 107 [(0, .agg #[.int .i64 m, .slice A n c]), (1, .slice A2 n2 c2), (2, .int .i64 s), (3, .int .i64 id), (4, .func (.func g) #[] lb), (5, .pointer (some ⟨b2, 0, none⟩)), (10, .slice none 0 0), (11, .int .i64 0), (12, .bool false), (13, .slice A0_13 n0_13 c0_13), (16, .slice A1_16 n1_16 c1_16), (17, .int .i64 lt), (18, .bool fd), (19, .int .i64 ((t : Nat) : Int)), (20, .slice (some ⟨b115, 0, none⟩) 0 0), (26, .slice A2 n2 c2), (27, .int .i64 ((n2 : Nat) : Int)), (28, .int .i64 ((j : Nat) : Int)), (29, .bool false), (44, .int .i64 ((2 ^ n0_13 : Nat) : Int)), (45, .int .i64 ((t : Nat) : Int)), (46, .bool true), (49, .slice A0_13 n0_13 c0_13), (50, .int .i64 ((n0_13 : Nat) : Int)), (51, .int .i64 0)] (fun U129 => ?_)
      refine h22 _ _ ?_
      refine wp_block ?_
      have ho130 := own_empty (base := w.heap.size) (size := 1) x119 lo121
      replace ho130 : World.ownsRow _ _ _ _ _ _ (intsV []) := ho130
      have nr131 : NbR (.slice (some ⟨b115, 0, none⟩) 0 0) (.slice A1_16 n1_16 c1_16) := nbr_new nb124
      have sp132 := sp_own (n' := 0) (c := 0) sp122
      have nb133 : Nb b2 (.slice (some ⟨b115, 0, none⟩) 0 0) := nb_new (by have := ne123; omega)
      refine loopK (fun am2 aa2 wl2 => ∃ (i : Nat) (A2_20 : Option Addr) (n2_20 : Nat) (c2_20 : Nat) (U2 : Nat → Value), aa2 = ⟨(fr U2 [(0, .agg #[.int .i64 m, .slice A n c]), (1, .slice A2 n2 c2), (2, .int .i64 s), (3, .int .i64 id), (4, .func (.func g) #[] lb), (5, .pointer (some ⟨b2, 0, none⟩)), (10, .slice none 0 0), (11, .int .i64 0), (12, .bool false), (13, .slice A0_13 n0_13 c0_13), (16, .slice A1_16 n1_16 c1_16), (17, .int .i64 lt), (18, .bool fd), (19, .int .i64 ((t : Nat) : Int)), (20, .slice A2_20 n2_20 c2_20), (26, .slice A2 n2 c2), (27, .int .i64 ((n2 : Nat) : Int)), (28, .int .i64 ((j : Nat) : Int)), (29, .bool false), (44, .int .i64 ((2 ^ n0_13 : Nat) : Int)), (45, .int .i64 ((t : Nat) : Int)), (46, .bool true), (49, .slice A0_13 n0_13 c0_13), (50, .int .i64 ((n0_13 : Nat) : Int)), (51, .int .i64 ((i : Nat) : Int))] 107 0).toArray, []⟩ ∧ (am2 = n0_13 - i) ∧ (i ≤ n0_13) ∧ (n2_20 ≤ i) ∧ (wl2.heap[b2]? = some (.cells #[.int .i64 m, .slice A n c] 32 (0, 0))) ∧ (wl2.ownsRow w.heap.size 3 1 (.slice A1_16 n1_16 c1_16) n1_16 (intsV bp)) ∧ (wl2.ownsRow w.heap.size 3 1 (.slice A2_20 n2_20 c2_20) n2_20 (intsV (choiceTo (openIds vs) t i))) ∧ (Nb b2 (.slice A2_20 n2_20 c2_20)) ∧ (NbR (.slice A2_20 n2_20 c2_20) (.slice A1_16 n1_16 c1_16)) ∧ (Rd wl2 1 A0_13 n0_13 (intsV (openIds vs))) ∧ (Rd wl2 1 A0_13 n0_13 (intsV (openIds vs))) ∧ (Sp A0_13 n0_13 (Value.ownBlock (.slice A2_20 n2_20 c2_20))) ∧ (Sp A0_13 n0_13 (Value.ownBlock (.slice A2_20 n2_20 c2_20))) ∧ (Below w.heap.size w wl2)) (n0_13 - 0) ?_ ?_
      · exact ⟨0, (some ⟨b115, 0, none⟩), 0, 0, (fun iU9 => lk [(0, .agg #[.int .i64 m, .slice A n c]), (1, .slice A2 n2 c2), (2, .int .i64 s), (3, .int .i64 id), (4, .func (.func g) #[] lb), (5, .pointer (some ⟨b2, 0, none⟩)), (10, .slice none 0 0), (11, .int .i64 0), (12, .bool false), (13, .slice A0_13 n0_13 c0_13), (16, .slice A1_16 n1_16 c1_16), (17, .int .i64 lt), (18, .bool fd), (19, .int .i64 ((t : Nat) : Int)), (20, .slice (some ⟨b115, 0, none⟩) 0 0), (26, .slice A2 n2 c2), (27, .int .i64 ((n2 : Nat) : Int)), (28, .int .i64 ((j : Nat) : Int)), (29, .bool false), (44, .int .i64 ((2 ^ n0_13 : Nat) : Int)), (45, .int .i64 ((t : Nat) : Int)), (46, .bool true), (49, .slice A0_13 n0_13 c0_13), (50, .int .i64 ((n0_13 : Nat) : Int)), (51, .int .i64 0)] iU9 (U129 iU9)), (by kernel_rfl), rfl, (Nat.zero_le _), (Nat.zero_le _), x6, ho125, ho130, nb133, nr131, rd128, rd128, sp132, sp132, c127⟩
      rintro am2 aa2 wl2 K23 h23 ⟨i, A2_20, n2_20, c2_20, U2, rfl, rfl, hi, hb20, x6, ho2_16, ho2_20, nb2_20_b2, nr2_1_0, rd2_49, rd2_13, sp2_49_20, sp2_13_20, c134⟩
      refine wp_seq_k (fun K24 h24 => ?_)
      refine W.region_quiet [(0, false)] (by kernel_rfl) ?_
      by_cases q135 : (((i : Nat) : Int) : Int) < (((n0_13 : Nat) : Int) : Int)
      · refine W.q (v := .bool true) (hr := (r_lss (m := ((i : Nat) : Int)) (n := ((n0_13 : Nat) : Int)) rfl (by kernel_rfl) (by kernel_rfl) (decide_eq_true q135))) (h := ?_)
        refine W.endF 107 [(0, .agg #[.int .i64 m, .slice A n c]), (1, .slice A2 n2 c2), (2, .int .i64 s), (3, .int .i64 id), (4, .func (.func g) #[] lb), (5, .pointer (some ⟨b2, 0, none⟩)), (10, .slice none 0 0), (11, .int .i64 0), (12, .bool false), (13, .slice A0_13 n0_13 c0_13), (16, .slice A1_16 n1_16 c1_16), (17, .int .i64 lt), (18, .bool fd), (19, .int .i64 ((t : Nat) : Int)), (20, .slice A2_20 n2_20 c2_20), (26, .slice A2 n2 c2), (27, .int .i64 ((n2 : Nat) : Int)), (28, .int .i64 ((j : Nat) : Int)), (29, .bool false), (44, .int .i64 ((2 ^ n0_13 : Nat) : Int)), (45, .int .i64 ((t : Nat) : Int)), (46, .bool true), (49, .slice A0_13 n0_13 c0_13), (50, .int .i64 ((n0_13 : Nat) : Int)), (51, .int .i64 ((i : Nat) : Int)), (52, .bool true)] (fun U136 => ?_)
        refine h24 _ _ ?_
        refine wp_seq_k (fun K25 h25 => ?_)
        refine wp_cond_true (by kernel_rfl) ?_
        refine wp_skip ?_
        refine h25 _ _ ?_
        refine wp_seq_k (fun K26 h26 => ?_)
        refine wp_block ?_
        refine wp_seq_k (fun K27 h27 => ?_)
        refine W.region_quiet [(0, false), (1, false), (2, false), (3, false), (4, false)] (by kernel_rfl) ?_
        refine W.mv (v := .int .i64 ((i : Nat) : Int)) (h := ?_)
        obtain ⟨x137, hx138⟩ := get_of (zs := (openIds vs)) (k := i) (by have := hl106; omega)
        obtain ⟨b139, o140, hA141, hb142, hc143⟩ := Rd.elInt rd2_49 hx138
        refine W.q (v := .pointer (some ⟨b139, o140 + i, none⟩)) (hr := (r_idx1 (n := n0_13) (c := c0_13) (k := i) rfl (by kernel_rfl) hA141 (by kernel_rfl) (by kernel_rfl) (by have := hl106; omega))) (h := ?_)
        refine W.ld (v := .int .i64 x137) (hc := (eqS hc143)) (h := ?_)
        refine W.as (v := .int .i64 ((i : Nat) : Int)) (h := ?_)
        refine W.as (v := .int .i64 x137) (h := ?_)
        refine W.endF 107 [(0, .agg #[.int .i64 m, .slice A n c]), (1, .slice A2 n2 c2), (2, .int .i64 s), (3, .int .i64 id), (4, .func (.func g) #[] lb), (5, .pointer (some ⟨b2, 0, none⟩)), (10, .slice none 0 0), (11, .int .i64 0), (12, .bool false), (13, .slice A0_13 n0_13 c0_13), (16, .slice A1_16 n1_16 c1_16), (17, .int .i64 lt), (18, .bool fd), (19, .int .i64 ((t : Nat) : Int)), (20, .slice A2_20 n2_20 c2_20), (21, .int .i64 ((i : Nat) : Int)), (22, .int .i64 x137), (26, .slice A2 n2 c2), (27, .int .i64 ((n2 : Nat) : Int)), (28, .int .i64 ((j : Nat) : Int)), (29, .bool false), (44, .int .i64 ((2 ^ n0_13 : Nat) : Int)), (45, .int .i64 ((t : Nat) : Int)), (46, .bool true), (49, .slice A0_13 n0_13 c0_13), (50, .int .i64 ((n0_13 : Nat) : Int)), (51, .int .i64 ((i : Nat) : Int)), (52, .bool true)] (fun U144 => ?_)
        refine h27 _ _ ?_
        refine wp_seq_k (fun K28 h28 => ?_)
        refine W.region_quiet [(0, false), (1, false), (2, false), (3, false), (4, false)] (by kernel_rfl) ?_
        refine W.mv (v := .int .i64 ((t : Nat) : Int)) (h := ?_)
        refine W.mv (v := .int .i64 ((i : Nat) : Int)) (h := ?_)
        refine W.q (v := .int .i64 ((t / 2 ^ i : Nat) : Int)) (hr := (r_shr (q := t) (k := i) (yk := .i64) rfl (by kernel_rfl) (by kernel_rfl) (by omega))) (h := ?_)
        refine W.q (v := .int .i64 (((t / 2 ^ i) % 2 : Nat) : Int)) (hr := (r_and1 (q := t / 2 ^ i) rfl (by kernel_rfl) (by kernel_rfl) (by have h9 := Nat.div_le_self t (2 ^ i); have h8 : (2 : Nat) ^ 10 = 1024 := rfl; omega))) (h := ?_)
        by_cases q145 : ((((t / 2 ^ i) % 2 : Nat) : Int) : Int) = (1 : Int)
        · refine W.q (v := .bool true) (hr := (r_eql (m := (((t / 2 ^ i) % 2 : Nat) : Int)) (n := 1) rfl (by kernel_rfl) (by kernel_rfl) (decide_eq_true q145))) (h := ?_)
          refine W.endF 107 [(0, .agg #[.int .i64 m, .slice A n c]), (1, .slice A2 n2 c2), (2, .int .i64 s), (3, .int .i64 id), (4, .func (.func g) #[] lb), (5, .pointer (some ⟨b2, 0, none⟩)), (10, .slice none 0 0), (11, .int .i64 0), (12, .bool false), (13, .slice A0_13 n0_13 c0_13), (16, .slice A1_16 n1_16 c1_16), (17, .int .i64 lt), (18, .bool fd), (19, .int .i64 ((t : Nat) : Int)), (20, .slice A2_20 n2_20 c2_20), (21, .int .i64 ((i : Nat) : Int)), (22, .int .i64 x137), (26, .slice A2 n2 c2), (27, .int .i64 ((n2 : Nat) : Int)), (28, .int .i64 ((j : Nat) : Int)), (29, .bool false), (44, .int .i64 ((2 ^ n0_13 : Nat) : Int)), (45, .int .i64 ((t : Nat) : Int)), (46, .bool true), (49, .slice A0_13 n0_13 c0_13), (50, .int .i64 ((n0_13 : Nat) : Int)), (51, .int .i64 ((i : Nat) : Int)), (52, .bool true), (60, .bool true)] (fun U146 => ?_)
          refine h28 _ _ ?_
          refine wp_cond_true (by kernel_rfl) ?_
          refine W.region_plain (row := (Value.ownBlock (.slice A2_20 n2_20 c2_20))) [(0, false), (1, false), (2, true), (3, true), (4, false)] (by kernel_rfl) ?_
          have s147 := SG.self wl2 (Value.ownBlock (.slice A2_20 n2_20 c2_20))
          refine W.mv (v := .slice A2_20 n2_20 c2_20) (h := ?_)
          refine W.mv (v := .int .i64 x137) (h := ?_)
          refine W.sn (fun b => .slice (some ⟨b, 0, none⟩) 1 1) #[.int .i64 x137] 3 s147 rfl (by kernel_rfl) rfl (fun _ => by kernel_rfl) (fun b148 w149 hb150 k151 x152 s153 => ?_)
          have lo154 : w.heap.size ≤ b148 := by have := ((SG.belowR c134 s147 (fun kq e => (World.ownsRow.lt ho2_20 kq e).1))).size; omega
          have sp155 : Sp A0_13 n0_13 (some b148) := sp_new rd2_13 (by have := World.grownBy.size s147; have := hb150; omega)
          have sp156 : Sp A0_13 n0_13 (some b148) := sp_new rd2_49 (by have := World.grownBy.size s147; have := hb150; omega)
          have ne157 : b2 ≠ b148 := by have := blk_lt x6; have := World.grownBy.size s147; omega
          have nb158 : Nb b148 (.slice A1_16 n1_16 c1_16) := nb_hi ho2_16 (Nat.le_of_eq hb150)
          have nb159 : Nb b148 (.slice A2_20 n2_20 c2_20) := nb_hi ho2_20 (Nat.le_of_eq hb150)
          have ho160 := own_kept ho2_16 k151
          have ho161 := own_kept ho2_20 k151
          refine W.sap (e := 3) (size := 1) (base := w.heap.size) (m := 1) (v := .slice A2_20 n2_20 c2_20) (c := 1) s153 rfl rfl rfl rfl (by kernel_rfl) (by kernel_rfl) (by kernel_rfl) ho161 x152 (by kernel_rfl) (by kernel_rfl) (by omega) (by omega) (by have := ((SG.belowR c134 s153 (fun kq e => (World.ownsRow.lt ho2_20 kq e).1))).size; omega) (.inl rfl) (fun g162 cap163 w164 ho165 hg166 hat167 hlt168 s169 => ?_)
          have nb170 : Nb b2 (.slice (some ⟨g162, 0, none⟩) (n2_20 + 1) cap163) := nb_app nb2_20_b2 (Nat.lt_of_lt_of_le (blk_lt x6) (World.grownBy.size s153)) hat167
          have nb171 : Nb b148 (.slice (some ⟨g162, 0, none⟩) (n2_20 + 1) cap163) := nb_app nb159 (blk_lt x152) hat167
          have x152 := (hg166.block _ (blk_lt x152) nb159).trans x152
          have ho165 := own_snoc ho165
          have sp172 := sp_app (v' := .slice (some ⟨g162, 0, none⟩) (n2_20 + 1) cap163) sp2_49_20 rd2_49 (World.grownBy.size s153) (hat3 (v := .slice A2_20 n2_20 c2_20) hat167)
          have sp173 := sp_app (v' := .slice (some ⟨g162, 0, none⟩) (n2_20 + 1) cap163) sp2_13_20 rd2_13 (World.grownBy.size s153) (hat3 (v := .slice A2_20 n2_20 c2_20) hat167)
          have nr174 : NbR (.slice (some ⟨g162, 0, none⟩) (n2_20 + 1) cap163) (.slice A1_16 n1_16 c1_16) := nbr_app nr2_1_0 (fun j h => (World.ownsRow.lt ho160 j h).2) (hat3 (v := .slice A2_20 n2_20 c2_20) hat167)
          have ho175 := own_grown ho160 hg166 (NbR.symm nr2_1_0)
          refine W.as (v := .slice (some ⟨g162, 0, none⟩) (n2_20 + 1) cap163) (h := ?_)
          refine W.endF 107 [(0, .agg #[.int .i64 m, .slice A n c]), (1, .slice A2 n2 c2), (2, .int .i64 s), (3, .int .i64 id), (4, .func (.func g) #[] lb), (5, .pointer (some ⟨b2, 0, none⟩)), (10, .slice none 0 0), (11, .int .i64 0), (12, .bool false), (13, .slice A0_13 n0_13 c0_13), (16, .slice A1_16 n1_16 c1_16), (17, .int .i64 lt), (18, .bool fd), (19, .int .i64 ((t : Nat) : Int)), (20, .slice (some ⟨g162, 0, none⟩) (n2_20 + 1) cap163), (21, .int .i64 ((i : Nat) : Int)), (22, .int .i64 x137), (26, .slice A2 n2 c2), (27, .int .i64 ((n2 : Nat) : Int)), (28, .int .i64 ((j : Nat) : Int)), (29, .bool false), (44, .int .i64 ((2 ^ n0_13 : Nat) : Int)), (45, .int .i64 ((t : Nat) : Int)), (46, .bool true), (49, .slice A0_13 n0_13 c0_13), (50, .int .i64 ((n0_13 : Nat) : Int)), (51, .int .i64 ((i : Nat) : Int)), (52, .bool true), (60, .bool true)] (fun U176 => ?_)
          have x6 := SG.blk s169 x6 nb2_20_b2
          have c177 := (SG.belowR c134 s169 (fun kq e => (World.ownsRow.lt ho2_20 kq e).1))
          have rd178 := rd_sep rd2_49 s169 sp2_49_20
          have rd179 := rd_sep rd2_13 s169 sp2_13_20
          refine h26 _ _ ?_
          refine W.region_quiet [(0, false), (1, false)] (by kernel_rfl) ?_
          refine W.q (v := .int .i64 ((i + 1 : Nat) : Int)) (hr := (r_add (m := ((i : Nat) : Int)) (n := 1) (z := ((i + 1 : Nat) : Int)) rfl (by kernel_rfl) (by kernel_rfl) (by omega) (by omega))) (h := ?_)
          refine W.mv (v := .int .i64 ((i + 1 : Nat) : Int)) (h := ?_)
          refine W.endF 107 [(0, .agg #[.int .i64 m, .slice A n c]), (1, .slice A2 n2 c2), (2, .int .i64 s), (3, .int .i64 id), (4, .func (.func g) #[] lb), (5, .pointer (some ⟨b2, 0, none⟩)), (10, .slice none 0 0), (11, .int .i64 0), (12, .bool false), (13, .slice A0_13 n0_13 c0_13), (16, .slice A1_16 n1_16 c1_16), (17, .int .i64 lt), (18, .bool fd), (19, .int .i64 ((t : Nat) : Int)), (20, .slice (some ⟨g162, 0, none⟩) (n2_20 + 1) cap163), (21, .int .i64 ((i : Nat) : Int)), (22, .int .i64 x137), (26, .slice A2 n2 c2), (27, .int .i64 ((n2 : Nat) : Int)), (28, .int .i64 ((j : Nat) : Int)), (29, .bool false), (44, .int .i64 ((2 ^ n0_13 : Nat) : Int)), (45, .int .i64 ((t : Nat) : Int)), (46, .bool true), (49, .slice A0_13 n0_13 c0_13), (50, .int .i64 ((n0_13 : Nat) : Int)), (51, .int .i64 ((i + 1 : Nat) : Int)), (52, .bool true), (60, .bool true)] (fun U180 => ?_)
          exact h23 _ _ _ (by omega : (n0_13 - (i + 1)) < _) ⟨i + 1, (some ⟨g162, 0, none⟩), (n2_20 + 1), cap163, (fun iU9 => lk [(0, .agg #[.int .i64 m, .slice A n c]), (1, .slice A2 n2 c2), (2, .int .i64 s), (3, .int .i64 id), (4, .func (.func g) #[] lb), (5, .pointer (some ⟨b2, 0, none⟩)), (10, .slice none 0 0), (11, .int .i64 0), (12, .bool false), (13, .slice A0_13 n0_13 c0_13), (16, .slice A1_16 n1_16 c1_16), (17, .int .i64 lt), (18, .bool fd), (19, .int .i64 ((t : Nat) : Int)), (20, .slice (some ⟨g162, 0, none⟩) (n2_20 + 1) cap163), (21, .int .i64 ((i : Nat) : Int)), (22, .int .i64 x137), (26, .slice A2 n2 c2), (27, .int .i64 ((n2 : Nat) : Int)), (28, .int .i64 ((j : Nat) : Int)), (29, .bool false), (44, .int .i64 ((2 ^ n0_13 : Nat) : Int)), (45, .int .i64 ((t : Nat) : Int)), (46, .bool true), (49, .slice A0_13 n0_13 c0_13), (50, .int .i64 ((n0_13 : Nat) : Int)), (51, .int .i64 ((i + 1 : Nat) : Int)), (52, .bool true), (60, .bool true)] iU9 (U180 iU9)), (by kernel_rfl), rfl, (by omega), (by omega), x6, ho175, (by rw [choiceTo_yes hx138 (by omega)]; exact ho165), nb170, nr174, rd178, rd179, sp172, sp173, c177⟩
        · refine W.q (v := .bool false) (hr := (r_eql (m := (((t / 2 ^ i) % 2 : Nat) : Int)) (n := 1) rfl (by kernel_rfl) (by kernel_rfl) (decide_eq_false q145))) (h := ?_)
          refine W.endF 107 [(0, .agg #[.int .i64 m, .slice A n c]), (1, .slice A2 n2 c2), (2, .int .i64 s), (3, .int .i64 id), (4, .func (.func g) #[] lb), (5, .pointer (some ⟨b2, 0, none⟩)), (10, .slice none 0 0), (11, .int .i64 0), (12, .bool false), (13, .slice A0_13 n0_13 c0_13), (16, .slice A1_16 n1_16 c1_16), (17, .int .i64 lt), (18, .bool fd), (19, .int .i64 ((t : Nat) : Int)), (20, .slice A2_20 n2_20 c2_20), (21, .int .i64 ((i : Nat) : Int)), (22, .int .i64 x137), (26, .slice A2 n2 c2), (27, .int .i64 ((n2 : Nat) : Int)), (28, .int .i64 ((j : Nat) : Int)), (29, .bool false), (44, .int .i64 ((2 ^ n0_13 : Nat) : Int)), (45, .int .i64 ((t : Nat) : Int)), (46, .bool true), (49, .slice A0_13 n0_13 c0_13), (50, .int .i64 ((n0_13 : Nat) : Int)), (51, .int .i64 ((i : Nat) : Int)), (52, .bool true), (60, .bool false)] (fun U181 => ?_)
          refine h28 _ _ ?_
          refine wp_cond_false (by kernel_rfl) ?_
          refine wp_skip ?_
          refine h26 _ _ ?_
          refine W.region_quiet [(0, false), (1, false)] (by kernel_rfl) ?_
          refine W.q (v := .int .i64 ((i + 1 : Nat) : Int)) (hr := (r_add (m := ((i : Nat) : Int)) (n := 1) (z := ((i + 1 : Nat) : Int)) rfl (by kernel_rfl) (by kernel_rfl) (by omega) (by omega))) (h := ?_)
          refine W.mv (v := .int .i64 ((i + 1 : Nat) : Int)) (h := ?_)
          refine W.endF 107 [(0, .agg #[.int .i64 m, .slice A n c]), (1, .slice A2 n2 c2), (2, .int .i64 s), (3, .int .i64 id), (4, .func (.func g) #[] lb), (5, .pointer (some ⟨b2, 0, none⟩)), (10, .slice none 0 0), (11, .int .i64 0), (12, .bool false), (13, .slice A0_13 n0_13 c0_13), (16, .slice A1_16 n1_16 c1_16), (17, .int .i64 lt), (18, .bool fd), (19, .int .i64 ((t : Nat) : Int)), (20, .slice A2_20 n2_20 c2_20), (21, .int .i64 ((i : Nat) : Int)), (22, .int .i64 x137), (26, .slice A2 n2 c2), (27, .int .i64 ((n2 : Nat) : Int)), (28, .int .i64 ((j : Nat) : Int)), (29, .bool false), (44, .int .i64 ((2 ^ n0_13 : Nat) : Int)), (45, .int .i64 ((t : Nat) : Int)), (46, .bool true), (49, .slice A0_13 n0_13 c0_13), (50, .int .i64 ((n0_13 : Nat) : Int)), (51, .int .i64 ((i + 1 : Nat) : Int)), (52, .bool true), (60, .bool false)] (fun U182 => ?_)
          exact h23 _ _ _ (by omega : (n0_13 - (i + 1)) < _) ⟨i + 1, A2_20, n2_20, c2_20, (fun iU9 => lk [(0, .agg #[.int .i64 m, .slice A n c]), (1, .slice A2 n2 c2), (2, .int .i64 s), (3, .int .i64 id), (4, .func (.func g) #[] lb), (5, .pointer (some ⟨b2, 0, none⟩)), (10, .slice none 0 0), (11, .int .i64 0), (12, .bool false), (13, .slice A0_13 n0_13 c0_13), (16, .slice A1_16 n1_16 c1_16), (17, .int .i64 lt), (18, .bool fd), (19, .int .i64 ((t : Nat) : Int)), (20, .slice A2_20 n2_20 c2_20), (21, .int .i64 ((i : Nat) : Int)), (22, .int .i64 x137), (26, .slice A2 n2 c2), (27, .int .i64 ((n2 : Nat) : Int)), (28, .int .i64 ((j : Nat) : Int)), (29, .bool false), (44, .int .i64 ((2 ^ n0_13 : Nat) : Int)), (45, .int .i64 ((t : Nat) : Int)), (46, .bool true), (49, .slice A0_13 n0_13 c0_13), (50, .int .i64 ((n0_13 : Nat) : Int)), (51, .int .i64 ((i + 1 : Nat) : Int)), (52, .bool true), (60, .bool false)] iU9 (U182 iU9)), (by kernel_rfl), rfl, (by omega), (by omega), x6, ho2_16, (by rw [choiceTo_no (by omega)]; exact ho2_20), nb2_20_b2, nr2_1_0, rd2_49, rd2_13, sp2_49_20, sp2_13_20, c134⟩
      · refine W.q (v := .bool false) (hr := (r_lss (m := ((i : Nat) : Int)) (n := ((n0_13 : Nat) : Int)) rfl (by kernel_rfl) (by kernel_rfl) (decide_eq_false q135))) (h := ?_)
        refine W.endF 107 [(0, .agg #[.int .i64 m, .slice A n c]), (1, .slice A2 n2 c2), (2, .int .i64 s), (3, .int .i64 id), (4, .func (.func g) #[] lb), (5, .pointer (some ⟨b2, 0, none⟩)), (10, .slice none 0 0), (11, .int .i64 0), (12, .bool false), (13, .slice A0_13 n0_13 c0_13), (16, .slice A1_16 n1_16 c1_16), (17, .int .i64 lt), (18, .bool fd), (19, .int .i64 ((t : Nat) : Int)), (20, .slice A2_20 n2_20 c2_20), (26, .slice A2 n2 c2), (27, .int .i64 ((n2 : Nat) : Int)), (28, .int .i64 ((j : Nat) : Int)), (29, .bool false), (44, .int .i64 ((2 ^ n0_13 : Nat) : Int)), (45, .int .i64 ((t : Nat) : Int)), (46, .bool true), (49, .slice A0_13 n0_13 c0_13), (50, .int .i64 ((n0_13 : Nat) : Int)), (51, .int .i64 ((i : Nat) : Int)), (52, .bool false)] (fun U183 => ?_)
        refine h24 _ _ ?_
        refine wp_seq_k (fun K29 h29 => ?_)
        refine wp_cond_false (by kernel_rfl) ?_
        refine wp_exit ?_
        refine h21 _ _ ?_
        refine wp_seq_k (fun K30 h30 => ?_)
        refine wp_seq_k (fun K31 h31 => ?_)
        refine W.region_plain (row := none) [(0, false), (1, false), (2, false), (3, false), (4, false), (5, true), (6, false)] (by kernel_rfl) ?_
        have s184 := SG.self wl2 none
        refine W.q (v := .agg #[.int .i64 m, .slice A n c]) (hr := (r_load2 rfl (by kernel_rfl) (by kernel_rfl) (by kernel_rfl) (sgS (blk_cell (j := 0) x6 (by kernel_rfl)) (by simp)) (sgS (blk_cell (j := 1) x6 (by kernel_rfl)) (by simp)))) (h := ?_)
        refine W.mv (v := .slice A2 n2 c2) (h := ?_)
        refine W.mv (v := .int .i64 s) (h := ?_)
        refine W.mv (v := .int .i64 id) (h := ?_)
        refine W.mv (v := .slice A2_20 n2_20 c2_20) (h := ?_)
        refine W.sc (vs := [.agg #[.int .i64 m, .slice A n c], .slice A2 n2 c2, .int .i64 s, .int .i64 id, .slice A2_20 n2_20 c2_20]) rfl rfl (by kernel_rfl) (by kernel_rfl) (by kernel_rfl) rfl (isolates_any m A n c ps A2 n2 c2 vs s id A2_20 n2_20 c2_20 (choiceTo (openIds vs) t i) _ (Rd.kept ha (SG.belowR c134 s184 (fun kq e => by cases e))) (Rd.kept hb (SG.belowR c134 s184 (fun kq e => by cases e))) (by omega) (by omega) hfm2 hv9 hs hfa (own_rd ho2_20) (by omega)) ?_
        rintro e w186 ⟨rfl, b185⟩
        have s187 := SG.of_below s184 b185
        refine ⟨_, rfl, s187, ?_⟩
        have ho188 := own_kept ho2_16 b185
        have ho189 := own_kept ho2_20 b185
        rcases Bool.eq_false_or_eq_true (cutB ps vs s id (choiceTo (openIds vs) t i)) with q190 | q190
        · rw [q190]
          refine W.q (v := .bool false) (hr := (r_not (b := true) rfl (by kernel_rfl) rfl)) (h := ?_)
          refine W.endF 107 [(0, .agg #[.int .i64 m, .slice A n c]), (1, .slice A2 n2 c2), (2, .int .i64 s), (3, .int .i64 id), (4, .func (.func g) #[] lb), (5, .pointer (some ⟨b2, 0, none⟩)), (10, .slice none 0 0), (11, .int .i64 0), (12, .bool false), (13, .slice A0_13 n0_13 c0_13), (16, .slice A1_16 n1_16 c1_16), (17, .int .i64 lt), (18, .bool fd), (19, .int .i64 ((t : Nat) : Int)), (20, .slice A2_20 n2_20 c2_20), (26, .slice A2 n2 c2), (27, .int .i64 ((n2 : Nat) : Int)), (28, .int .i64 ((j : Nat) : Int)), (29, .bool false), (44, .int .i64 ((2 ^ n0_13 : Nat) : Int)), (45, .int .i64 ((t : Nat) : Int)), (46, .bool true), (49, .slice A0_13 n0_13 c0_13), (50, .int .i64 ((n0_13 : Nat) : Int)), (51, .int .i64 ((i : Nat) : Int)), (52, .bool false), (72, .bool false)] (fun U191 => ?_)
          have x6 := SG.blk s187 x6 (by simp)
          have c192 := (SG.belowR c134 s187 (fun kq e => by cases e))
          have rd193 := Rd.kept rd2_49 (SG.below s187)
          have rd194 := Rd.kept rd2_13 (SG.below s187)
          refine h31 _ _ ?_
          refine wp_cond_false (by kernel_rfl) ?_
          refine wp_skip ?_
          refine h30 _ _ ?_
          refine wp_seq_k (fun K32 h32 => ?_)
          refine W.region_plain (row := none) [(0, false), (1, false), (2, true), (3, false)] (by kernel_rfl) ?_
          have s195 := SG.self w186 none
          refine W.mv (v := .func (.func g) #[] lb) (h := ?_)
          refine W.mv (v := .slice A2_20 n2_20 c2_20) (h := ?_)
          refine W.scv (vs := [.slice A2_20 n2_20 c2_20]) (g := g) (lb := lb) rfl rfl (by kernel_rfl) (by kernel_rfl) he (by kernel_rfl) rfl (HG _ A2_20 n2_20 c2_20 (choiceTo (openIds vs) t i) ((SG.belowR c192 s195 (fun kq e => by cases e))) (own_rd ho189) (by omega)) ?_
          rintro e w197 ⟨rfl, b196⟩
          have s198 := SG.of_below s195 b196
          refine ⟨_, rfl, s198, ?_⟩
          have ho199 := own_kept ho188 b196
          have ho200 := own_kept ho189 b196
          refine W.as (v := .int .i64 (h (choiceTo (openIds vs) t i))) (h := ?_)
          refine W.endF 107 [(0, .agg #[.int .i64 m, .slice A n c]), (1, .slice A2 n2 c2), (2, .int .i64 s), (3, .int .i64 id), (4, .func (.func g) #[] lb), (5, .pointer (some ⟨b2, 0, none⟩)), (10, .slice none 0 0), (11, .int .i64 0), (12, .bool false), (13, .slice A0_13 n0_13 c0_13), (16, .slice A1_16 n1_16 c1_16), (17, .int .i64 lt), (18, .bool fd), (19, .int .i64 ((t : Nat) : Int)), (20, .slice A2_20 n2_20 c2_20), (23, .int .i64 (h (choiceTo (openIds vs) t i))), (26, .slice A2 n2 c2), (27, .int .i64 ((n2 : Nat) : Int)), (28, .int .i64 ((j : Nat) : Int)), (29, .bool false), (44, .int .i64 ((2 ^ n0_13 : Nat) : Int)), (45, .int .i64 ((t : Nat) : Int)), (46, .bool true), (49, .slice A0_13 n0_13 c0_13), (50, .int .i64 ((n0_13 : Nat) : Int)), (51, .int .i64 ((i : Nat) : Int)), (52, .bool false), (72, .bool false)] (fun U201 => ?_)
          have x6 := SG.blk s198 x6 (by simp)
          have c202 := (SG.belowR c192 s198 (fun kq e => by cases e))
          have rd203 := Rd.kept rd193 (SG.below s198)
          have rd204 := Rd.kept rd194 (SG.below s198)
          refine h32 _ _ ?_
          refine wp_seq_k (fun K33 h33 => ?_)
          refine W.region_plain (row := none) [(0, false), (1, false), (2, false), (3, true), (4, false), (5, false), (6, false), (7, true), (8, true), (9, false)] (by kernel_rfl) ?_
          have s205 := SG.self w197 none
          refine W.mv (v := .int .i64 (h (choiceTo (openIds vs) t i))) (h := ?_)
          refine W.mv (v := .slice A2_20 n2_20 c2_20) (h := ?_)
          refine W.q (v := .int .i64 ((n2_20 : Nat) : Int)) (hr := (r_len (A := A2_20) (n := n2_20) (c := c2_20) rfl (by kernel_rfl) (by kernel_rfl))) (h := ?_)
          refine W.sn (fun b => .slice (some ⟨b, 0, none⟩) 2 2) #[.int .i64 (h (choiceTo (openIds vs) t i)), .int .i64 ((n2_20 : Nat) : Int)] 3 s205 rfl (by kernel_rfl) rfl (fun _ => by kernel_rfl) (fun b206 w207 hb208 k209 x210 s211 => ?_)
          have lo212 : w.heap.size ≤ b206 := by have := ((SG.belowR c202 s205 (fun kq e => by cases e))).size; omega
          have sp213 : Sp A0_13 n0_13 (some b206) := sp_new rd204 (by have := World.grownBy.size s205; have := hb208; omega)
          have sp214 : Sp A0_13 n0_13 (some b206) := sp_new rd203 (by have := World.grownBy.size s205; have := hb208; omega)
          have ne215 : b2 ≠ b206 := by have := blk_lt x6; have := World.grownBy.size s205; omega
          have nb216 : Nb b206 (.slice A1_16 n1_16 c1_16) := nb_hi ho199 (Nat.le_of_eq hb208)
          have nb217 : Nb b206 (.slice A2_20 n2_20 c2_20) := nb_hi ho200 (Nat.le_of_eq hb208)
          have ho218 := own_kept ho199 k209
          have ho219 := own_kept ho200 k209
          refine W.mv (v := .int .i64 lt) (h := ?_)
          refine W.mv (v := .slice A1_16 n1_16 c1_16) (h := ?_)
          refine W.q (v := .int .i64 ((n1_16 : Nat) : Int)) (hr := (r_len (A := A1_16) (n := n1_16) (c := c1_16) rfl (by kernel_rfl) (by kernel_rfl))) (h := ?_)
          refine W.sn (fun b => .slice (some ⟨b, 0, none⟩) 2 2) #[.int .i64 lt, .int .i64 ((n1_16 : Nat) : Int)] 3 s211 rfl (by kernel_rfl) rfl (fun _ => by kernel_rfl) (fun b220 w221 hb222 k223 x224 s225 => ?_)
          have lo226 : w.heap.size ≤ b220 := by have := ((SG.belowR c202 s211 (fun kq e => by cases e))).size; omega
          have sp227 : Sp A0_13 n0_13 (some b220) := sp_new rd204 (by have := World.grownBy.size s211; have := hb222; omega)
          have sp228 : Sp A0_13 n0_13 (some b220) := sp_new rd203 (by have := World.grownBy.size s211; have := hb222; omega)
          have ne229 : b2 ≠ b220 := by have := blk_lt x6; have := World.grownBy.size s211; omega
          have ne230 : b206 ≠ b220 := by have := blk_lt x210; omega
          have nb231 : Nb b220 (.slice A1_16 n1_16 c1_16) := nb_hi ho218 (Nat.le_of_eq hb222)
          have nb232 : Nb b220 (.slice A2_20 n2_20 c2_20) := nb_hi ho219 (Nat.le_of_eq hb222)
          have x210 := (k223.block _ (blk_lt x210)).trans x210
          have ho233 := own_kept ho218 k223
          have ho234 := own_kept ho219 k223
          have ho235 := own_blk (base := w.heap.size) (size := 1) (n := 2) x210 lo212 rfl (by omega)
          replace ho235 : World.ownsRow _ _ _ _ _ _ (intsV [(h (choiceTo (openIds vs) t i)), ((n2_20 : Nat) : Int)]) := ho235
          have nr236 : NbR (.slice (some ⟨b206, 0, none⟩) 2 2) (.slice A1_16 n1_16 c1_16) := nbr_new nb216
          have nr237 : NbR (.slice (some ⟨b206, 0, none⟩) 2 2) (.slice A2_20 n2_20 c2_20) := nbr_new nb217
          have sp238 := sp_own (n' := 2) (c := 2) sp213
          have sp239 := sp_own (n' := 2) (c := 2) sp214
          have nb240 : Nb b2 (.slice (some ⟨b206, 0, none⟩) 2 2) := nb_new (by have := ne215; omega)
          have nb241 : Nb b220 (.slice (some ⟨b206, 0, none⟩) 2 2) := nb_new (by have := ne230; omega)
          have ho242 := own_blk (base := w.heap.size) (size := 1) (n := 2) x224 lo226 rfl (by omega)
          replace ho242 : World.ownsRow _ _ _ _ _ _ (intsV [lt, ((n1_16 : Nat) : Int)]) := ho242
          have nr243 : NbR (.slice (some ⟨b220, 0, none⟩) 2 2) (.slice A1_16 n1_16 c1_16) := nbr_new nb231
          have nr244 : NbR (.slice (some ⟨b220, 0, none⟩) 2 2) (.slice A2_20 n2_20 c2_20) := nbr_new nb232
          have nr245 : NbR (.slice (some ⟨b220, 0, none⟩) 2 2) (.slice (some ⟨b206, 0, none⟩) 2 2) := nbr_new nb241
          have sp246 := sp_own (n' := 2) (c := 2) sp227
          have sp247 := sp_own (n' := 2) (c := 2) sp228
          have nb248 : Nb b2 (.slice (some ⟨b220, 0, none⟩) 2 2) := nb_new (by have := ne229; omega)
          refine W.sc (vs := [.slice (some ⟨b206, 0, none⟩) 2 2, .slice (some ⟨b220, 0, none⟩) 2 2]) rfl rfl (by kernel_rfl) (by kernel_rfl) (by kernel_rfl) rfl (slCompare_any (some ⟨b206, 0, none⟩) 2 2 ([(h (choiceTo (openIds vs) t i)), ((n2_20 : Nat) : Int)]) (some ⟨b220, 0, none⟩) 2 2 ([lt, ((n1_16 : Nat) : Int)]) _ (own_rd ho235) (by omega) (own_rd ho242) (by omega)) ?_
          rintro e w250 ⟨rfl, b249⟩
          have s251 := SG.of_below s225 b249
          refine ⟨_, rfl, s251, ?_⟩
          have ho252 := own_kept ho233 b249
          have ho253 := own_kept ho234 b249
          have ho254 := own_kept ho235 b249
          have ho255 := own_kept ho242 b249
          refine W.as (v := .int .i64 (cmpL ([(h (choiceTo (openIds vs) t i)), ((n2_20 : Nat) : Int)]) ([lt, ((n1_16 : Nat) : Int)]))) (h := ?_)
          refine W.endF 107 [(0, .agg #[.int .i64 m, .slice A n c]), (1, .slice A2 n2 c2), (2, .int .i64 s), (3, .int .i64 id), (4, .func (.func g) #[] lb), (5, .pointer (some ⟨b2, 0, none⟩)), (10, .slice none 0 0), (11, .int .i64 0), (12, .bool false), (13, .slice A0_13 n0_13 c0_13), (16, .slice A1_16 n1_16 c1_16), (17, .int .i64 lt), (18, .bool fd), (19, .int .i64 ((t : Nat) : Int)), (20, .slice A2_20 n2_20 c2_20), (23, .int .i64 (h (choiceTo (openIds vs) t i))), (24, .int .i64 (cmpL ([(h (choiceTo (openIds vs) t i)), ((n2_20 : Nat) : Int)]) ([lt, ((n1_16 : Nat) : Int)]))), (26, .slice A2 n2 c2), (27, .int .i64 ((n2 : Nat) : Int)), (28, .int .i64 ((j : Nat) : Int)), (29, .bool false), (44, .int .i64 ((2 ^ n0_13 : Nat) : Int)), (45, .int .i64 ((t : Nat) : Int)), (46, .bool true), (49, .slice A0_13 n0_13 c0_13), (50, .int .i64 ((n0_13 : Nat) : Int)), (51, .int .i64 ((i : Nat) : Int)), (52, .bool false), (72, .bool false)] (fun U256 => ?_)
          have x6 := SG.blk s251 x6 (by simp)
          have c257 := (SG.belowR c202 s251 (fun kq e => by cases e))
          have rd258 := Rd.kept rd203 (SG.below s251)
          have rd259 := Rd.kept rd204 (SG.below s251)
          refine h33 _ _ ?_
          refine wp_seq_k (fun K34 h34 => ?_)
          refine W.region_plain (row := none) [(0, false), (1, false), (2, false), (3, false), (4, false), (5, false), (6, false), (7, false), (8, false), (9, false), (10, false), (11, false), (12, true), (13, false), (14, false), (15, false)] (by kernel_rfl) ?_
          have s260 := SG.self w250 none
          refine W.mv (v := .bool fd) (h := ?_)
          refine W.q (v := .bool (!fd)) (hr := (r_not (b := fd) rfl (by kernel_rfl) rfl)) (h := ?_)
          refine W.mv (v := .bool (!fd)) (h := ?_)
          rcases Bool.eq_false_or_eq_true (!fd) with q261 | q261
          · rw [q261]
            refine W.sp s260 (h := ?_)
            refine W.sp s260 (h := ?_)
            refine W.q (v := .bool true) (hr := (r_pick (b := true) rfl (by kernel_rfl) (by kernel_rfl))) (h := ?_)
            refine W.mv (v := .bool true) (h := ?_)
            refine W.sp s260 (h := ?_)
            refine W.sp s260 (h := ?_)
            refine W.sp s260 (h := ?_)
            refine W.sp s260 (h := ?_)
            refine W.sp s260 (h := ?_)
            refine W.sp s260 (h := ?_)
            refine W.sp s260 (h := ?_)
            refine W.sp s260 (h := ?_)
            refine W.q (v := .bool true) (hr := (r_pick (b := true) rfl (by kernel_rfl) (by kernel_rfl))) (h := ?_)
            refine W.endF 107 [(0, .agg #[.int .i64 m, .slice A n c]), (1, .slice A2 n2 c2), (2, .int .i64 s), (3, .int .i64 id), (4, .func (.func g) #[] lb), (5, .pointer (some ⟨b2, 0, none⟩)), (10, .slice none 0 0), (11, .int .i64 0), (12, .bool false), (13, .slice A0_13 n0_13 c0_13), (16, .slice A1_16 n1_16 c1_16), (17, .int .i64 lt), (18, .bool fd), (19, .int .i64 ((t : Nat) : Int)), (20, .slice A2_20 n2_20 c2_20), (23, .int .i64 (h (choiceTo (openIds vs) t i))), (24, .int .i64 (cmpL ([(h (choiceTo (openIds vs) t i)), ((n2_20 : Nat) : Int)]) ([lt, ((n1_16 : Nat) : Int)]))), (26, .slice A2 n2 c2), (27, .int .i64 ((n2 : Nat) : Int)), (28, .int .i64 ((j : Nat) : Int)), (29, .bool false), (44, .int .i64 ((2 ^ n0_13 : Nat) : Int)), (45, .int .i64 ((t : Nat) : Int)), (46, .bool true), (49, .slice A0_13 n0_13 c0_13), (50, .int .i64 ((n0_13 : Nat) : Int)), (51, .int .i64 ((i : Nat) : Int)), (52, .bool false), (72, .bool false), (100, .bool true)] (fun U262 => ?_)
            have x6 := SG.blk s260 x6 (by simp)
            have c263 := (SG.belowR c257 s260 (fun kq e => by cases e))
            have rd264 := Rd.kept rd258 (SG.below s260)
            have rd265 := Rd.kept rd259 (SG.below s260)
            refine h34 _ _ ?_
            refine wp_cond_true (by kernel_rfl) ?_
            refine W.region_quiet [(0, false), (1, false), (2, false), (3, false), (4, false)] (by kernel_rfl) ?_
            refine W.mv (v := .slice A2_20 n2_20 c2_20) (h := ?_)
            refine W.mv (v := .int .i64 (h (choiceTo (openIds vs) t i))) (h := ?_)
            refine W.as (v := .slice A2_20 n2_20 c2_20) (h := ?_)
            refine W.as (v := .int .i64 (h (choiceTo (openIds vs) t i))) (h := ?_)
            refine W.as (v := .bool true) (h := ?_)
            refine W.endF 107 [(0, .agg #[.int .i64 m, .slice A n c]), (1, .slice A2 n2 c2), (2, .int .i64 s), (3, .int .i64 id), (4, .func (.func g) #[] lb), (5, .pointer (some ⟨b2, 0, none⟩)), (10, .slice none 0 0), (11, .int .i64 0), (12, .bool false), (13, .slice A0_13 n0_13 c0_13), (16, .slice A2_20 n2_20 c2_20), (17, .int .i64 (h (choiceTo (openIds vs) t i))), (18, .bool true), (19, .int .i64 ((t : Nat) : Int)), (20, .slice A2_20 n2_20 c2_20), (23, .int .i64 (h (choiceTo (openIds vs) t i))), (24, .int .i64 (cmpL ([(h (choiceTo (openIds vs) t i)), ((n2_20 : Nat) : Int)]) ([lt, ((n1_16 : Nat) : Int)]))), (26, .slice A2 n2 c2), (27, .int .i64 ((n2 : Nat) : Int)), (28, .int .i64 ((j : Nat) : Int)), (29, .bool false), (44, .int .i64 ((2 ^ n0_13 : Nat) : Int)), (45, .int .i64 ((t : Nat) : Int)), (46, .bool true), (49, .slice A0_13 n0_13 c0_13), (50, .int .i64 ((n0_13 : Nat) : Int)), (51, .int .i64 ((i : Nat) : Int)), (52, .bool false), (72, .bool false), (100, .bool true)] (fun U266 => ?_)
            refine h18 _ _ ?_
            refine W.region_quiet [(0, false), (1, false)] (by kernel_rfl) ?_
            refine W.q (v := .int .i64 ((t + 1 : Nat) : Int)) (hr := (r_add (m := ((t : Nat) : Int)) (n := 1) (z := ((t + 1 : Nat) : Int)) rfl (by kernel_rfl) (by kernel_rfl) (by omega) (by omega))) (h := ?_)
            refine W.mv (v := .int .i64 ((t + 1 : Nat) : Int)) (h := ?_)
            refine W.endF 107 [(0, .agg #[.int .i64 m, .slice A n c]), (1, .slice A2 n2 c2), (2, .int .i64 s), (3, .int .i64 id), (4, .func (.func g) #[] lb), (5, .pointer (some ⟨b2, 0, none⟩)), (10, .slice none 0 0), (11, .int .i64 0), (12, .bool false), (13, .slice A0_13 n0_13 c0_13), (16, .slice A2_20 n2_20 c2_20), (17, .int .i64 (h (choiceTo (openIds vs) t i))), (18, .bool true), (19, .int .i64 ((t : Nat) : Int)), (20, .slice A2_20 n2_20 c2_20), (23, .int .i64 (h (choiceTo (openIds vs) t i))), (24, .int .i64 (cmpL ([(h (choiceTo (openIds vs) t i)), ((n2_20 : Nat) : Int)]) ([lt, ((n1_16 : Nat) : Int)]))), (26, .slice A2 n2 c2), (27, .int .i64 ((n2 : Nat) : Int)), (28, .int .i64 ((j : Nat) : Int)), (29, .bool false), (44, .int .i64 ((2 ^ n0_13 : Nat) : Int)), (45, .int .i64 ((t + 1 : Nat) : Int)), (46, .bool true), (49, .slice A0_13 n0_13 c0_13), (50, .int .i64 ((n0_13 : Nat) : Int)), (51, .int .i64 ((i : Nat) : Int)), (52, .bool false), (72, .bool false), (100, .bool true)] (fun U267 => ?_)
            exact h15 _ _ _ (by omega : (2 ^ n0_13 - (t + 1)) < _) ⟨t + 1, (choiceTo (openIds vs) t i), (h (choiceTo (openIds vs) t i)), true, A2_20, n2_20, c2_20, (fun iU9 => lk [(0, .agg #[.int .i64 m, .slice A n c]), (1, .slice A2 n2 c2), (2, .int .i64 s), (3, .int .i64 id), (4, .func (.func g) #[] lb), (5, .pointer (some ⟨b2, 0, none⟩)), (10, .slice none 0 0), (11, .int .i64 0), (12, .bool false), (13, .slice A0_13 n0_13 c0_13), (16, .slice A2_20 n2_20 c2_20), (17, .int .i64 (h (choiceTo (openIds vs) t i))), (18, .bool true), (19, .int .i64 ((t : Nat) : Int)), (20, .slice A2_20 n2_20 c2_20), (23, .int .i64 (h (choiceTo (openIds vs) t i))), (24, .int .i64 (cmpL ([(h (choiceTo (openIds vs) t i)), ((n2_20 : Nat) : Int)]) ([lt, ((n1_16 : Nat) : Int)]))), (26, .slice A2 n2 c2), (27, .int .i64 ((n2 : Nat) : Int)), (28, .int .i64 ((j : Nat) : Int)), (29, .bool false), (44, .int .i64 ((2 ^ n0_13 : Nat) : Int)), (45, .int .i64 ((t + 1 : Nat) : Int)), (46, .bool true), (49, .slice A0_13 n0_13 c0_13), (50, .int .i64 ((n0_13 : Nat) : Int)), (51, .int .i64 ((i : Nat) : Int)), (52, .bool false), (72, .bool false), (100, .bool true)] iU9 (U267 iU9)), (by kernel_rfl), rfl, (by omega), ((bestTo_next (hst.trans (fd_none (by simpa using q261)))).trans (by rw [show choice (openIds vs) t = choiceTo (openIds vs) t i from by unfold choice; rw [show (openIds vs).length = i by omega]]; exact bestStep_first q190)), (fun e => by cases e), (by omega), x6, ho253, nb2_20_b2, rd265, sp2_13_20, c263⟩
          · rw [q261]
            refine W.mv (v := .int .i64 (cmpL ([(h (choiceTo (openIds vs) t i)), ((n2_20 : Nat) : Int)]) ([lt, ((n1_16 : Nat) : Int)]))) (h := ?_)
            by_cases q268 : ((cmpL ([(h (choiceTo (openIds vs) t i)), ((n2_20 : Nat) : Int)]) ([lt, ((n1_16 : Nat) : Int)])) : Int) < (0 : Int)
            · have hlp := rd_ints_len (own_rd ho253)
              have hlb := rd_ints_len (own_rd ho252)
              refine W.q (v := .bool true) (hr := (r_lss (m := (cmpL ([(h (choiceTo (openIds vs) t i)), ((n2_20 : Nat) : Int)]) ([lt, ((n1_16 : Nat) : Int)]))) (n := 0) rfl (by kernel_rfl) (by kernel_rfl) (decide_eq_true q268))) (h := ?_)
              refine W.q (v := .bool true) (hr := (r_pick (b := false) rfl (by kernel_rfl) (by kernel_rfl))) (h := ?_)
              refine W.mv (v := .bool true) (h := ?_)
              refine W.sp s260 (h := ?_)
              refine W.sp s260 (h := ?_)
              refine W.sp s260 (h := ?_)
              refine W.sp s260 (h := ?_)
              refine W.sp s260 (h := ?_)
              refine W.sp s260 (h := ?_)
              refine W.sp s260 (h := ?_)
              refine W.sp s260 (h := ?_)
              refine W.q (v := .bool true) (hr := (r_pick (b := true) rfl (by kernel_rfl) (by kernel_rfl))) (h := ?_)
              refine W.endF 107 [(0, .agg #[.int .i64 m, .slice A n c]), (1, .slice A2 n2 c2), (2, .int .i64 s), (3, .int .i64 id), (4, .func (.func g) #[] lb), (5, .pointer (some ⟨b2, 0, none⟩)), (10, .slice none 0 0), (11, .int .i64 0), (12, .bool false), (13, .slice A0_13 n0_13 c0_13), (16, .slice A1_16 n1_16 c1_16), (17, .int .i64 lt), (18, .bool fd), (19, .int .i64 ((t : Nat) : Int)), (20, .slice A2_20 n2_20 c2_20), (23, .int .i64 (h (choiceTo (openIds vs) t i))), (24, .int .i64 (cmpL ([(h (choiceTo (openIds vs) t i)), ((n2_20 : Nat) : Int)]) ([lt, ((n1_16 : Nat) : Int)]))), (26, .slice A2 n2 c2), (27, .int .i64 ((n2 : Nat) : Int)), (28, .int .i64 ((j : Nat) : Int)), (29, .bool false), (44, .int .i64 ((2 ^ n0_13 : Nat) : Int)), (45, .int .i64 ((t : Nat) : Int)), (46, .bool true), (49, .slice A0_13 n0_13 c0_13), (50, .int .i64 ((n0_13 : Nat) : Int)), (51, .int .i64 ((i : Nat) : Int)), (52, .bool false), (72, .bool false), (100, .bool true)] (fun U269 => ?_)
              have x6 := SG.blk s260 x6 (by simp)
              have c270 := (SG.belowR c257 s260 (fun kq e => by cases e))
              have rd271 := Rd.kept rd258 (SG.below s260)
              have rd272 := Rd.kept rd259 (SG.below s260)
              refine h34 _ _ ?_
              refine wp_cond_true (by kernel_rfl) ?_
              refine W.region_quiet [(0, false), (1, false), (2, false), (3, false), (4, false)] (by kernel_rfl) ?_
              refine W.mv (v := .slice A2_20 n2_20 c2_20) (h := ?_)
              refine W.mv (v := .int .i64 (h (choiceTo (openIds vs) t i))) (h := ?_)
              refine W.as (v := .slice A2_20 n2_20 c2_20) (h := ?_)
              refine W.as (v := .int .i64 (h (choiceTo (openIds vs) t i))) (h := ?_)
              refine W.as (v := .bool true) (h := ?_)
              refine W.endF 107 [(0, .agg #[.int .i64 m, .slice A n c]), (1, .slice A2 n2 c2), (2, .int .i64 s), (3, .int .i64 id), (4, .func (.func g) #[] lb), (5, .pointer (some ⟨b2, 0, none⟩)), (10, .slice none 0 0), (11, .int .i64 0), (12, .bool false), (13, .slice A0_13 n0_13 c0_13), (16, .slice A2_20 n2_20 c2_20), (17, .int .i64 (h (choiceTo (openIds vs) t i))), (18, .bool true), (19, .int .i64 ((t : Nat) : Int)), (20, .slice A2_20 n2_20 c2_20), (23, .int .i64 (h (choiceTo (openIds vs) t i))), (24, .int .i64 (cmpL ([(h (choiceTo (openIds vs) t i)), ((n2_20 : Nat) : Int)]) ([lt, ((n1_16 : Nat) : Int)]))), (26, .slice A2 n2 c2), (27, .int .i64 ((n2 : Nat) : Int)), (28, .int .i64 ((j : Nat) : Int)), (29, .bool false), (44, .int .i64 ((2 ^ n0_13 : Nat) : Int)), (45, .int .i64 ((t : Nat) : Int)), (46, .bool true), (49, .slice A0_13 n0_13 c0_13), (50, .int .i64 ((n0_13 : Nat) : Int)), (51, .int .i64 ((i : Nat) : Int)), (52, .bool false), (72, .bool false), (100, .bool true)] (fun U273 => ?_)
              refine h18 _ _ ?_
              refine W.region_quiet [(0, false), (1, false)] (by kernel_rfl) ?_
              refine W.q (v := .int .i64 ((t + 1 : Nat) : Int)) (hr := (r_add (m := ((t : Nat) : Int)) (n := 1) (z := ((t + 1 : Nat) : Int)) rfl (by kernel_rfl) (by kernel_rfl) (by omega) (by omega))) (h := ?_)
              refine W.mv (v := .int .i64 ((t + 1 : Nat) : Int)) (h := ?_)
              refine W.endF 107 [(0, .agg #[.int .i64 m, .slice A n c]), (1, .slice A2 n2 c2), (2, .int .i64 s), (3, .int .i64 id), (4, .func (.func g) #[] lb), (5, .pointer (some ⟨b2, 0, none⟩)), (10, .slice none 0 0), (11, .int .i64 0), (12, .bool false), (13, .slice A0_13 n0_13 c0_13), (16, .slice A2_20 n2_20 c2_20), (17, .int .i64 (h (choiceTo (openIds vs) t i))), (18, .bool true), (19, .int .i64 ((t : Nat) : Int)), (20, .slice A2_20 n2_20 c2_20), (23, .int .i64 (h (choiceTo (openIds vs) t i))), (24, .int .i64 (cmpL ([(h (choiceTo (openIds vs) t i)), ((n2_20 : Nat) : Int)]) ([lt, ((n1_16 : Nat) : Int)]))), (26, .slice A2 n2 c2), (27, .int .i64 ((n2 : Nat) : Int)), (28, .int .i64 ((j : Nat) : Int)), (29, .bool false), (44, .int .i64 ((2 ^ n0_13 : Nat) : Int)), (45, .int .i64 ((t + 1 : Nat) : Int)), (46, .bool true), (49, .slice A0_13 n0_13 c0_13), (50, .int .i64 ((n0_13 : Nat) : Int)), (51, .int .i64 ((i : Nat) : Int)), (52, .bool false), (72, .bool false), (100, .bool true)] (fun U274 => ?_)
              exact h15 _ _ _ (by omega : (2 ^ n0_13 - (t + 1)) < _) ⟨t + 1, (choiceTo (openIds vs) t i), (h (choiceTo (openIds vs) t i)), true, A2_20, n2_20, c2_20, (fun iU9 => lk [(0, .agg #[.int .i64 m, .slice A n c]), (1, .slice A2 n2 c2), (2, .int .i64 s), (3, .int .i64 id), (4, .func (.func g) #[] lb), (5, .pointer (some ⟨b2, 0, none⟩)), (10, .slice none 0 0), (11, .int .i64 0), (12, .bool false), (13, .slice A0_13 n0_13 c0_13), (16, .slice A2_20 n2_20 c2_20), (17, .int .i64 (h (choiceTo (openIds vs) t i))), (18, .bool true), (19, .int .i64 ((t : Nat) : Int)), (20, .slice A2_20 n2_20 c2_20), (23, .int .i64 (h (choiceTo (openIds vs) t i))), (24, .int .i64 (cmpL ([(h (choiceTo (openIds vs) t i)), ((n2_20 : Nat) : Int)]) ([lt, ((n1_16 : Nat) : Int)]))), (26, .slice A2 n2 c2), (27, .int .i64 ((n2 : Nat) : Int)), (28, .int .i64 ((j : Nat) : Int)), (29, .bool false), (44, .int .i64 ((2 ^ n0_13 : Nat) : Int)), (45, .int .i64 ((t + 1 : Nat) : Int)), (46, .bool true), (49, .slice A0_13 n0_13 c0_13), (50, .int .i64 ((n0_13 : Nat) : Int)), (51, .int .i64 ((i : Nat) : Int)), (52, .bool false), (72, .bool false), (100, .bool true)] iU9 (U274 iU9)), (by kernel_rfl), rfl, (by omega), ((bestTo_next (hst.trans (fd_some (by simpa using q261)))).trans (by rw [show choice (openIds vs) t = choiceTo (openIds vs) t i from by unfold choice; rw [show (openIds vs).length = i by omega]]; exact bestStep_yes q190 (by rw [better_cmp, show (((choiceTo (openIds vs) t i).length : Nat) : Int) = ((n2_20 : Nat) : Int) from by omega, show ((bp.length : Nat) : Int) = ((n1_16 : Nat) : Int) from by omega, decide_eq_true q268]; rfl))), (fun e => by cases e), (by omega), x6, ho253, nb2_20_b2, rd272, sp2_13_20, c270⟩
            · have hlp := rd_ints_len (own_rd ho253)
              have hlb := rd_ints_len (own_rd ho252)
              refine W.q (v := .bool false) (hr := (r_lss (m := (cmpL ([(h (choiceTo (openIds vs) t i)), ((n2_20 : Nat) : Int)]) ([lt, ((n1_16 : Nat) : Int)]))) (n := 0) rfl (by kernel_rfl) (by kernel_rfl) (decide_eq_false q268))) (h := ?_)
              refine W.q (v := .bool false) (hr := (r_pick (b := false) rfl (by kernel_rfl) (by kernel_rfl))) (h := ?_)
              refine W.mv (v := .bool false) (h := ?_)
              refine W.mv (v := .int .i64 (cmpL ([(h (choiceTo (openIds vs) t i)), ((n2_20 : Nat) : Int)]) ([lt, ((n1_16 : Nat) : Int)]))) (h := ?_)
              by_cases q275 : ((cmpL ([(h (choiceTo (openIds vs) t i)), ((n2_20 : Nat) : Int)]) ([lt, ((n1_16 : Nat) : Int)])) : Int) = (0 : Int)
              · refine W.q (v := .bool true) (hr := (r_eql (m := (cmpL ([(h (choiceTo (openIds vs) t i)), ((n2_20 : Nat) : Int)]) ([lt, ((n1_16 : Nat) : Int)]))) (n := 0) rfl (by kernel_rfl) (by kernel_rfl) (decide_eq_true q275))) (h := ?_)
                refine W.mv (v := .bool true) (h := ?_)
                refine W.mv (v := .slice A2_20 n2_20 c2_20) (h := ?_)
                refine W.mv (v := .slice A1_16 n1_16 c1_16) (h := ?_)
                refine W.sc (vs := [.slice A2_20 n2_20 c2_20, .slice A1_16 n1_16 c1_16]) rfl rfl (by kernel_rfl) (by kernel_rfl) (by kernel_rfl) rfl (slCompare_any A2_20 n2_20 c2_20 (choiceTo (openIds vs) t i) A1_16 n1_16 c1_16 bp _ (own_rd ho253) (by omega) (own_rd ho252) (by omega)) ?_
                rintro e w277 ⟨rfl, b276⟩
                have s278 := SG.of_below s260 b276
                refine ⟨_, rfl, s278, ?_⟩
                have ho279 := own_kept ho252 b276
                have ho280 := own_kept ho253 b276
                have ho281 := own_kept ho254 b276
                have ho282 := own_kept ho255 b276
                by_cases q283 : ((cmpL (choiceTo (openIds vs) t i) bp) : Int) < (0 : Int)
                · refine W.q (v := .bool true) (hr := (r_lss (m := (cmpL (choiceTo (openIds vs) t i) bp)) (n := 0) rfl (by kernel_rfl) (by kernel_rfl) (decide_eq_true q283))) (h := ?_)
                  refine W.q (v := .bool true) (hr := (r_pick (b := true) rfl (by kernel_rfl) (by kernel_rfl))) (h := ?_)
                  refine W.q (v := .bool true) (hr := (r_pick (b := false) rfl (by kernel_rfl) (by kernel_rfl))) (h := ?_)
                  refine W.endF 107 [(0, .agg #[.int .i64 m, .slice A n c]), (1, .slice A2 n2 c2), (2, .int .i64 s), (3, .int .i64 id), (4, .func (.func g) #[] lb), (5, .pointer (some ⟨b2, 0, none⟩)), (10, .slice none 0 0), (11, .int .i64 0), (12, .bool false), (13, .slice A0_13 n0_13 c0_13), (16, .slice A1_16 n1_16 c1_16), (17, .int .i64 lt), (18, .bool fd), (19, .int .i64 ((t : Nat) : Int)), (20, .slice A2_20 n2_20 c2_20), (23, .int .i64 (h (choiceTo (openIds vs) t i))), (24, .int .i64 (cmpL ([(h (choiceTo (openIds vs) t i)), ((n2_20 : Nat) : Int)]) ([lt, ((n1_16 : Nat) : Int)]))), (26, .slice A2 n2 c2), (27, .int .i64 ((n2 : Nat) : Int)), (28, .int .i64 ((j : Nat) : Int)), (29, .bool false), (44, .int .i64 ((2 ^ n0_13 : Nat) : Int)), (45, .int .i64 ((t : Nat) : Int)), (46, .bool true), (49, .slice A0_13 n0_13 c0_13), (50, .int .i64 ((n0_13 : Nat) : Int)), (51, .int .i64 ((i : Nat) : Int)), (52, .bool false), (72, .bool false), (100, .bool true)] (fun U284 => ?_)
                  have x6 := SG.blk s278 x6 (by simp)
                  have c285 := (SG.belowR c257 s278 (fun kq e => by cases e))
                  have rd286 := Rd.kept rd258 (SG.below s278)
                  have rd287 := Rd.kept rd259 (SG.below s278)
                  refine h34 _ _ ?_
                  refine wp_cond_true (by kernel_rfl) ?_
                  refine W.region_quiet [(0, false), (1, false), (2, false), (3, false), (4, false)] (by kernel_rfl) ?_
                  refine W.mv (v := .slice A2_20 n2_20 c2_20) (h := ?_)
                  refine W.mv (v := .int .i64 (h (choiceTo (openIds vs) t i))) (h := ?_)
                  refine W.as (v := .slice A2_20 n2_20 c2_20) (h := ?_)
                  refine W.as (v := .int .i64 (h (choiceTo (openIds vs) t i))) (h := ?_)
                  refine W.as (v := .bool true) (h := ?_)
                  refine W.endF 107 [(0, .agg #[.int .i64 m, .slice A n c]), (1, .slice A2 n2 c2), (2, .int .i64 s), (3, .int .i64 id), (4, .func (.func g) #[] lb), (5, .pointer (some ⟨b2, 0, none⟩)), (10, .slice none 0 0), (11, .int .i64 0), (12, .bool false), (13, .slice A0_13 n0_13 c0_13), (16, .slice A2_20 n2_20 c2_20), (17, .int .i64 (h (choiceTo (openIds vs) t i))), (18, .bool true), (19, .int .i64 ((t : Nat) : Int)), (20, .slice A2_20 n2_20 c2_20), (23, .int .i64 (h (choiceTo (openIds vs) t i))), (24, .int .i64 (cmpL ([(h (choiceTo (openIds vs) t i)), ((n2_20 : Nat) : Int)]) ([lt, ((n1_16 : Nat) : Int)]))), (26, .slice A2 n2 c2), (27, .int .i64 ((n2 : Nat) : Int)), (28, .int .i64 ((j : Nat) : Int)), (29, .bool false), (44, .int .i64 ((2 ^ n0_13 : Nat) : Int)), (45, .int .i64 ((t : Nat) : Int)), (46, .bool true), (49, .slice A0_13 n0_13 c0_13), (50, .int .i64 ((n0_13 : Nat) : Int)), (51, .int .i64 ((i : Nat) : Int)), (52, .bool false), (72, .bool false), (100, .bool true)] (fun U288 => ?_)
                  refine h18 _ _ ?_
                  refine W.region_quiet [(0, false), (1, false)] (by kernel_rfl) ?_
                  refine W.q (v := .int .i64 ((t + 1 : Nat) : Int)) (hr := (r_add (m := ((t : Nat) : Int)) (n := 1) (z := ((t + 1 : Nat) : Int)) rfl (by kernel_rfl) (by kernel_rfl) (by omega) (by omega))) (h := ?_)
                  refine W.mv (v := .int .i64 ((t + 1 : Nat) : Int)) (h := ?_)
                  refine W.endF 107 [(0, .agg #[.int .i64 m, .slice A n c]), (1, .slice A2 n2 c2), (2, .int .i64 s), (3, .int .i64 id), (4, .func (.func g) #[] lb), (5, .pointer (some ⟨b2, 0, none⟩)), (10, .slice none 0 0), (11, .int .i64 0), (12, .bool false), (13, .slice A0_13 n0_13 c0_13), (16, .slice A2_20 n2_20 c2_20), (17, .int .i64 (h (choiceTo (openIds vs) t i))), (18, .bool true), (19, .int .i64 ((t : Nat) : Int)), (20, .slice A2_20 n2_20 c2_20), (23, .int .i64 (h (choiceTo (openIds vs) t i))), (24, .int .i64 (cmpL ([(h (choiceTo (openIds vs) t i)), ((n2_20 : Nat) : Int)]) ([lt, ((n1_16 : Nat) : Int)]))), (26, .slice A2 n2 c2), (27, .int .i64 ((n2 : Nat) : Int)), (28, .int .i64 ((j : Nat) : Int)), (29, .bool false), (44, .int .i64 ((2 ^ n0_13 : Nat) : Int)), (45, .int .i64 ((t + 1 : Nat) : Int)), (46, .bool true), (49, .slice A0_13 n0_13 c0_13), (50, .int .i64 ((n0_13 : Nat) : Int)), (51, .int .i64 ((i : Nat) : Int)), (52, .bool false), (72, .bool false), (100, .bool true)] (fun U289 => ?_)
                  exact h15 _ _ _ (by omega : (2 ^ n0_13 - (t + 1)) < _) ⟨t + 1, (choiceTo (openIds vs) t i), (h (choiceTo (openIds vs) t i)), true, A2_20, n2_20, c2_20, (fun iU9 => lk [(0, .agg #[.int .i64 m, .slice A n c]), (1, .slice A2 n2 c2), (2, .int .i64 s), (3, .int .i64 id), (4, .func (.func g) #[] lb), (5, .pointer (some ⟨b2, 0, none⟩)), (10, .slice none 0 0), (11, .int .i64 0), (12, .bool false), (13, .slice A0_13 n0_13 c0_13), (16, .slice A2_20 n2_20 c2_20), (17, .int .i64 (h (choiceTo (openIds vs) t i))), (18, .bool true), (19, .int .i64 ((t : Nat) : Int)), (20, .slice A2_20 n2_20 c2_20), (23, .int .i64 (h (choiceTo (openIds vs) t i))), (24, .int .i64 (cmpL ([(h (choiceTo (openIds vs) t i)), ((n2_20 : Nat) : Int)]) ([lt, ((n1_16 : Nat) : Int)]))), (26, .slice A2 n2 c2), (27, .int .i64 ((n2 : Nat) : Int)), (28, .int .i64 ((j : Nat) : Int)), (29, .bool false), (44, .int .i64 ((2 ^ n0_13 : Nat) : Int)), (45, .int .i64 ((t + 1 : Nat) : Int)), (46, .bool true), (49, .slice A0_13 n0_13 c0_13), (50, .int .i64 ((n0_13 : Nat) : Int)), (51, .int .i64 ((i : Nat) : Int)), (52, .bool false), (72, .bool false), (100, .bool true)] iU9 (U289 iU9)), (by kernel_rfl), rfl, (by omega), ((bestTo_next (hst.trans (fd_some (by simpa using q261)))).trans (by rw [show choice (openIds vs) t = choiceTo (openIds vs) t i from by unfold choice; rw [show (openIds vs).length = i by omega]]; exact bestStep_yes q190 (by rw [better_cmp, show (((choiceTo (openIds vs) t i).length : Nat) : Int) = ((n2_20 : Nat) : Int) from by omega, show ((bp.length : Nat) : Int) = ((n1_16 : Nat) : Int) from by omega, decide_eq_false q268, decide_eq_true q275, decide_eq_true q283]; rfl))), (fun e => by cases e), (by omega), x6, ho280, nb2_20_b2, rd287, sp2_13_20, c285⟩
                · refine W.q (v := .bool false) (hr := (r_lss (m := (cmpL (choiceTo (openIds vs) t i) bp)) (n := 0) rfl (by kernel_rfl) (by kernel_rfl) (decide_eq_false q283))) (h := ?_)
                  refine W.q (v := .bool false) (hr := (r_pick (b := true) rfl (by kernel_rfl) (by kernel_rfl))) (h := ?_)
                  refine W.q (v := .bool false) (hr := (r_pick (b := false) rfl (by kernel_rfl) (by kernel_rfl))) (h := ?_)
                  refine W.endF 107 [(0, .agg #[.int .i64 m, .slice A n c]), (1, .slice A2 n2 c2), (2, .int .i64 s), (3, .int .i64 id), (4, .func (.func g) #[] lb), (5, .pointer (some ⟨b2, 0, none⟩)), (10, .slice none 0 0), (11, .int .i64 0), (12, .bool false), (13, .slice A0_13 n0_13 c0_13), (16, .slice A1_16 n1_16 c1_16), (17, .int .i64 lt), (18, .bool fd), (19, .int .i64 ((t : Nat) : Int)), (20, .slice A2_20 n2_20 c2_20), (23, .int .i64 (h (choiceTo (openIds vs) t i))), (24, .int .i64 (cmpL ([(h (choiceTo (openIds vs) t i)), ((n2_20 : Nat) : Int)]) ([lt, ((n1_16 : Nat) : Int)]))), (26, .slice A2 n2 c2), (27, .int .i64 ((n2 : Nat) : Int)), (28, .int .i64 ((j : Nat) : Int)), (29, .bool false), (44, .int .i64 ((2 ^ n0_13 : Nat) : Int)), (45, .int .i64 ((t : Nat) : Int)), (46, .bool true), (49, .slice A0_13 n0_13 c0_13), (50, .int .i64 ((n0_13 : Nat) : Int)), (51, .int .i64 ((i : Nat) : Int)), (52, .bool false), (72, .bool false), (100, .bool false)] (fun U290 => ?_)
                  have x6 := SG.blk s278 x6 (by simp)
                  have c291 := (SG.belowR c257 s278 (fun kq e => by cases e))
                  have rd292 := Rd.kept rd258 (SG.below s278)
                  have rd293 := Rd.kept rd259 (SG.below s278)
                  refine h34 _ _ ?_
                  refine wp_cond_false (by kernel_rfl) ?_
                  refine wp_skip ?_
                  refine h18 _ _ ?_
                  refine W.region_quiet [(0, false), (1, false)] (by kernel_rfl) ?_
                  refine W.q (v := .int .i64 ((t + 1 : Nat) : Int)) (hr := (r_add (m := ((t : Nat) : Int)) (n := 1) (z := ((t + 1 : Nat) : Int)) rfl (by kernel_rfl) (by kernel_rfl) (by omega) (by omega))) (h := ?_)
                  refine W.mv (v := .int .i64 ((t + 1 : Nat) : Int)) (h := ?_)
                  refine W.endF 107 [(0, .agg #[.int .i64 m, .slice A n c]), (1, .slice A2 n2 c2), (2, .int .i64 s), (3, .int .i64 id), (4, .func (.func g) #[] lb), (5, .pointer (some ⟨b2, 0, none⟩)), (10, .slice none 0 0), (11, .int .i64 0), (12, .bool false), (13, .slice A0_13 n0_13 c0_13), (16, .slice A1_16 n1_16 c1_16), (17, .int .i64 lt), (18, .bool fd), (19, .int .i64 ((t : Nat) : Int)), (20, .slice A2_20 n2_20 c2_20), (23, .int .i64 (h (choiceTo (openIds vs) t i))), (24, .int .i64 (cmpL ([(h (choiceTo (openIds vs) t i)), ((n2_20 : Nat) : Int)]) ([lt, ((n1_16 : Nat) : Int)]))), (26, .slice A2 n2 c2), (27, .int .i64 ((n2 : Nat) : Int)), (28, .int .i64 ((j : Nat) : Int)), (29, .bool false), (44, .int .i64 ((2 ^ n0_13 : Nat) : Int)), (45, .int .i64 ((t + 1 : Nat) : Int)), (46, .bool true), (49, .slice A0_13 n0_13 c0_13), (50, .int .i64 ((n0_13 : Nat) : Int)), (51, .int .i64 ((i : Nat) : Int)), (52, .bool false), (72, .bool false), (100, .bool false)] (fun U294 => ?_)
                  exact h15 _ _ _ (by omega : (2 ^ n0_13 - (t + 1)) < _) ⟨t + 1, bp, lt, fd, A1_16, n1_16, c1_16, (fun iU9 => lk [(0, .agg #[.int .i64 m, .slice A n c]), (1, .slice A2 n2 c2), (2, .int .i64 s), (3, .int .i64 id), (4, .func (.func g) #[] lb), (5, .pointer (some ⟨b2, 0, none⟩)), (10, .slice none 0 0), (11, .int .i64 0), (12, .bool false), (13, .slice A0_13 n0_13 c0_13), (16, .slice A1_16 n1_16 c1_16), (17, .int .i64 lt), (18, .bool fd), (19, .int .i64 ((t : Nat) : Int)), (20, .slice A2_20 n2_20 c2_20), (23, .int .i64 (h (choiceTo (openIds vs) t i))), (24, .int .i64 (cmpL ([(h (choiceTo (openIds vs) t i)), ((n2_20 : Nat) : Int)]) ([lt, ((n1_16 : Nat) : Int)]))), (26, .slice A2 n2 c2), (27, .int .i64 ((n2 : Nat) : Int)), (28, .int .i64 ((j : Nat) : Int)), (29, .bool false), (44, .int .i64 ((2 ^ n0_13 : Nat) : Int)), (45, .int .i64 ((t + 1 : Nat) : Int)), (46, .bool true), (49, .slice A0_13 n0_13 c0_13), (50, .int .i64 ((n0_13 : Nat) : Int)), (51, .int .i64 ((i : Nat) : Int)), (52, .bool false), (72, .bool false), (100, .bool false)] iU9 (U294 iU9)), (by kernel_rfl), rfl, (by omega), ((bestTo_next (hst.trans (fd_some (by simpa using q261)))).trans (by rw [show choice (openIds vs) t = choiceTo (openIds vs) t i from by unfold choice; rw [show (openIds vs).length = i by omega], bestStep_keep (by rw [better_cmp, show (((choiceTo (openIds vs) t i).length : Nat) : Int) = ((n2_20 : Nat) : Int) from by omega, show ((bp.length : Nat) : Int) = ((n1_16 : Nat) : Int) from by omega, decide_eq_false q268, decide_eq_true q275, decide_eq_false q283]; rfl), show fd = true from (by simpa using q261)]; rfl)), hnf, (by omega), x6, ho279, nb1_16_b2, rd293, sp1_13_16, c291⟩
              · refine W.q (v := .bool false) (hr := (r_eql (m := (cmpL ([(h (choiceTo (openIds vs) t i)), ((n2_20 : Nat) : Int)]) ([lt, ((n1_16 : Nat) : Int)]))) (n := 0) rfl (by kernel_rfl) (by kernel_rfl) (decide_eq_false q275))) (h := ?_)
                refine W.mv (v := .bool false) (h := ?_)
                refine W.sp s260 (h := ?_)
                refine W.sp s260 (h := ?_)
                refine W.sp s260 (h := ?_)
                refine W.sp s260 (h := ?_)
                refine W.q (v := .bool false) (hr := (r_pick (b := false) rfl (by kernel_rfl) (by kernel_rfl))) (h := ?_)
                refine W.q (v := .bool false) (hr := (r_pick (b := false) rfl (by kernel_rfl) (by kernel_rfl))) (h := ?_)
                refine W.endF 107 [(0, .agg #[.int .i64 m, .slice A n c]), (1, .slice A2 n2 c2), (2, .int .i64 s), (3, .int .i64 id), (4, .func (.func g) #[] lb), (5, .pointer (some ⟨b2, 0, none⟩)), (10, .slice none 0 0), (11, .int .i64 0), (12, .bool false), (13, .slice A0_13 n0_13 c0_13), (16, .slice A1_16 n1_16 c1_16), (17, .int .i64 lt), (18, .bool fd), (19, .int .i64 ((t : Nat) : Int)), (20, .slice A2_20 n2_20 c2_20), (23, .int .i64 (h (choiceTo (openIds vs) t i))), (24, .int .i64 (cmpL ([(h (choiceTo (openIds vs) t i)), ((n2_20 : Nat) : Int)]) ([lt, ((n1_16 : Nat) : Int)]))), (26, .slice A2 n2 c2), (27, .int .i64 ((n2 : Nat) : Int)), (28, .int .i64 ((j : Nat) : Int)), (29, .bool false), (44, .int .i64 ((2 ^ n0_13 : Nat) : Int)), (45, .int .i64 ((t : Nat) : Int)), (46, .bool true), (49, .slice A0_13 n0_13 c0_13), (50, .int .i64 ((n0_13 : Nat) : Int)), (51, .int .i64 ((i : Nat) : Int)), (52, .bool false), (72, .bool false), (100, .bool false)] (fun U295 => ?_)
                have x6 := SG.blk s260 x6 (by simp)
                have c296 := (SG.belowR c257 s260 (fun kq e => by cases e))
                have rd297 := Rd.kept rd258 (SG.below s260)
                have rd298 := Rd.kept rd259 (SG.below s260)
                refine h34 _ _ ?_
                refine wp_cond_false (by kernel_rfl) ?_
                refine wp_skip ?_
                refine h18 _ _ ?_
                refine W.region_quiet [(0, false), (1, false)] (by kernel_rfl) ?_
                refine W.q (v := .int .i64 ((t + 1 : Nat) : Int)) (hr := (r_add (m := ((t : Nat) : Int)) (n := 1) (z := ((t + 1 : Nat) : Int)) rfl (by kernel_rfl) (by kernel_rfl) (by omega) (by omega))) (h := ?_)
                refine W.mv (v := .int .i64 ((t + 1 : Nat) : Int)) (h := ?_)
                refine W.endF 107 [(0, .agg #[.int .i64 m, .slice A n c]), (1, .slice A2 n2 c2), (2, .int .i64 s), (3, .int .i64 id), (4, .func (.func g) #[] lb), (5, .pointer (some ⟨b2, 0, none⟩)), (10, .slice none 0 0), (11, .int .i64 0), (12, .bool false), (13, .slice A0_13 n0_13 c0_13), (16, .slice A1_16 n1_16 c1_16), (17, .int .i64 lt), (18, .bool fd), (19, .int .i64 ((t : Nat) : Int)), (20, .slice A2_20 n2_20 c2_20), (23, .int .i64 (h (choiceTo (openIds vs) t i))), (24, .int .i64 (cmpL ([(h (choiceTo (openIds vs) t i)), ((n2_20 : Nat) : Int)]) ([lt, ((n1_16 : Nat) : Int)]))), (26, .slice A2 n2 c2), (27, .int .i64 ((n2 : Nat) : Int)), (28, .int .i64 ((j : Nat) : Int)), (29, .bool false), (44, .int .i64 ((2 ^ n0_13 : Nat) : Int)), (45, .int .i64 ((t + 1 : Nat) : Int)), (46, .bool true), (49, .slice A0_13 n0_13 c0_13), (50, .int .i64 ((n0_13 : Nat) : Int)), (51, .int .i64 ((i : Nat) : Int)), (52, .bool false), (72, .bool false), (100, .bool false)] (fun U299 => ?_)
                exact h15 _ _ _ (by omega : (2 ^ n0_13 - (t + 1)) < _) ⟨t + 1, bp, lt, fd, A1_16, n1_16, c1_16, (fun iU9 => lk [(0, .agg #[.int .i64 m, .slice A n c]), (1, .slice A2 n2 c2), (2, .int .i64 s), (3, .int .i64 id), (4, .func (.func g) #[] lb), (5, .pointer (some ⟨b2, 0, none⟩)), (10, .slice none 0 0), (11, .int .i64 0), (12, .bool false), (13, .slice A0_13 n0_13 c0_13), (16, .slice A1_16 n1_16 c1_16), (17, .int .i64 lt), (18, .bool fd), (19, .int .i64 ((t : Nat) : Int)), (20, .slice A2_20 n2_20 c2_20), (23, .int .i64 (h (choiceTo (openIds vs) t i))), (24, .int .i64 (cmpL ([(h (choiceTo (openIds vs) t i)), ((n2_20 : Nat) : Int)]) ([lt, ((n1_16 : Nat) : Int)]))), (26, .slice A2 n2 c2), (27, .int .i64 ((n2 : Nat) : Int)), (28, .int .i64 ((j : Nat) : Int)), (29, .bool false), (44, .int .i64 ((2 ^ n0_13 : Nat) : Int)), (45, .int .i64 ((t + 1 : Nat) : Int)), (46, .bool true), (49, .slice A0_13 n0_13 c0_13), (50, .int .i64 ((n0_13 : Nat) : Int)), (51, .int .i64 ((i : Nat) : Int)), (52, .bool false), (72, .bool false), (100, .bool false)] iU9 (U299 iU9)), (by kernel_rfl), rfl, (by omega), ((bestTo_next (hst.trans (fd_some (by simpa using q261)))).trans (by rw [show choice (openIds vs) t = choiceTo (openIds vs) t i from by unfold choice; rw [show (openIds vs).length = i by omega], bestStep_keep (by rw [better_cmp, show (((choiceTo (openIds vs) t i).length : Nat) : Int) = ((n2_20 : Nat) : Int) from by omega, show ((bp.length : Nat) : Int) = ((n1_16 : Nat) : Int) from by omega, decide_eq_false q268, decide_eq_false q275]; rfl), show fd = true from (by simpa using q261)]; rfl)), hnf, (by omega), x6, ho252, nb1_16_b2, rd298, sp1_13_16, c296⟩
        · rw [q190]
          refine W.q (v := .bool true) (hr := (r_not (b := false) rfl (by kernel_rfl) rfl)) (h := ?_)
          refine W.endF 107 [(0, .agg #[.int .i64 m, .slice A n c]), (1, .slice A2 n2 c2), (2, .int .i64 s), (3, .int .i64 id), (4, .func (.func g) #[] lb), (5, .pointer (some ⟨b2, 0, none⟩)), (10, .slice none 0 0), (11, .int .i64 0), (12, .bool false), (13, .slice A0_13 n0_13 c0_13), (16, .slice A1_16 n1_16 c1_16), (17, .int .i64 lt), (18, .bool fd), (19, .int .i64 ((t : Nat) : Int)), (20, .slice A2_20 n2_20 c2_20), (26, .slice A2 n2 c2), (27, .int .i64 ((n2 : Nat) : Int)), (28, .int .i64 ((j : Nat) : Int)), (29, .bool false), (44, .int .i64 ((2 ^ n0_13 : Nat) : Int)), (45, .int .i64 ((t : Nat) : Int)), (46, .bool true), (49, .slice A0_13 n0_13 c0_13), (50, .int .i64 ((n0_13 : Nat) : Int)), (51, .int .i64 ((i : Nat) : Int)), (52, .bool false), (72, .bool true)] (fun U300 => ?_)
          have x6 := SG.blk s187 x6 (by simp)
          have c301 := (SG.belowR c134 s187 (fun kq e => by cases e))
          have rd302 := Rd.kept rd2_49 (SG.below s187)
          have rd303 := Rd.kept rd2_13 (SG.below s187)
          refine h31 _ _ ?_
          refine wp_cond_true (by kernel_rfl) ?_
          refine wp_exit ?_
          refine h18 _ _ ?_
          refine W.region_quiet [(0, false), (1, false)] (by kernel_rfl) ?_
          refine W.q (v := .int .i64 ((t + 1 : Nat) : Int)) (hr := (r_add (m := ((t : Nat) : Int)) (n := 1) (z := ((t + 1 : Nat) : Int)) rfl (by kernel_rfl) (by kernel_rfl) (by omega) (by omega))) (h := ?_)
          refine W.mv (v := .int .i64 ((t + 1 : Nat) : Int)) (h := ?_)
          refine W.endF 107 [(0, .agg #[.int .i64 m, .slice A n c]), (1, .slice A2 n2 c2), (2, .int .i64 s), (3, .int .i64 id), (4, .func (.func g) #[] lb), (5, .pointer (some ⟨b2, 0, none⟩)), (10, .slice none 0 0), (11, .int .i64 0), (12, .bool false), (13, .slice A0_13 n0_13 c0_13), (16, .slice A1_16 n1_16 c1_16), (17, .int .i64 lt), (18, .bool fd), (19, .int .i64 ((t : Nat) : Int)), (20, .slice A2_20 n2_20 c2_20), (26, .slice A2 n2 c2), (27, .int .i64 ((n2 : Nat) : Int)), (28, .int .i64 ((j : Nat) : Int)), (29, .bool false), (44, .int .i64 ((2 ^ n0_13 : Nat) : Int)), (45, .int .i64 ((t + 1 : Nat) : Int)), (46, .bool true), (49, .slice A0_13 n0_13 c0_13), (50, .int .i64 ((n0_13 : Nat) : Int)), (51, .int .i64 ((i : Nat) : Int)), (52, .bool false), (72, .bool true)] (fun U304 => ?_)
          exact h15 _ _ _ (by omega : (2 ^ n0_13 - (t + 1)) < _) ⟨t + 1, bp, lt, fd, A1_16, n1_16, c1_16, (fun iU9 => lk [(0, .agg #[.int .i64 m, .slice A n c]), (1, .slice A2 n2 c2), (2, .int .i64 s), (3, .int .i64 id), (4, .func (.func g) #[] lb), (5, .pointer (some ⟨b2, 0, none⟩)), (10, .slice none 0 0), (11, .int .i64 0), (12, .bool false), (13, .slice A0_13 n0_13 c0_13), (16, .slice A1_16 n1_16 c1_16), (17, .int .i64 lt), (18, .bool fd), (19, .int .i64 ((t : Nat) : Int)), (20, .slice A2_20 n2_20 c2_20), (26, .slice A2 n2 c2), (27, .int .i64 ((n2 : Nat) : Int)), (28, .int .i64 ((j : Nat) : Int)), (29, .bool false), (44, .int .i64 ((2 ^ n0_13 : Nat) : Int)), (45, .int .i64 ((t + 1 : Nat) : Int)), (46, .bool true), (49, .slice A0_13 n0_13 c0_13), (50, .int .i64 ((n0_13 : Nat) : Int)), (51, .int .i64 ((i : Nat) : Int)), (52, .bool false), (72, .bool true)] iU9 (U304 iU9)), (by kernel_rfl), rfl, (by omega), ((bestTo_next hst).trans (bestStep_no (by rw [show choice (openIds vs) t = choiceTo (openIds vs) t i from by unfold choice; rw [show (openIds vs).length = i by omega]]; exact q190))), hnf, (by omega), x6, ho188, nb1_16_b2, rd303, sp1_13_16, c301⟩
    · refine W.q (v := .bool false) (hr := (r_lss (m := ((t : Nat) : Int)) (n := ((2 ^ n0_13 : Nat) : Int)) rfl (by kernel_rfl) (by kernel_rfl) (decide_eq_false q111))) (h := ?_)
      refine W.endF 107 [(0, .agg #[.int .i64 m, .slice A n c]), (1, .slice A2 n2 c2), (2, .int .i64 s), (3, .int .i64 id), (4, .func (.func g) #[] lb), (5, .pointer (some ⟨b2, 0, none⟩)), (10, .slice none 0 0), (11, .int .i64 0), (12, .bool false), (13, .slice A0_13 n0_13 c0_13), (16, .slice A1_16 n1_16 c1_16), (17, .int .i64 lt), (18, .bool fd), (26, .slice A2 n2 c2), (27, .int .i64 ((n2 : Nat) : Int)), (28, .int .i64 ((j : Nat) : Int)), (29, .bool false), (44, .int .i64 ((2 ^ n0_13 : Nat) : Int)), (45, .int .i64 ((t : Nat) : Int)), (46, .bool false)] (fun U305 => ?_)
      refine h16 _ _ ?_
      refine wp_seq_k (fun K35 h35 => ?_)
      refine wp_cond_false (by kernel_rfl) ?_
      refine wp_exit ?_
      refine h13 _ _ ?_
      refine wp_seq_k (fun K36 h36 => ?_)
      refine W.region_quiet [(0, false), (1, false), (2, false), (3, false), (4, false), (5, false)] (by kernel_rfl) ?_
      refine W.mv (v := .slice A1_16 n1_16 c1_16) (h := ?_)
      refine W.mv (v := .int .i64 lt) (h := ?_)
      refine W.mv (v := .bool fd) (h := ?_)
      refine W.as (v := .slice A1_16 n1_16 c1_16) (h := ?_)
      refine W.as (v := .int .i64 lt) (h := ?_)
      refine W.as (v := .bool fd) (h := ?_)
      refine W.endF 107 [(0, .agg #[.int .i64 m, .slice A n c]), (1, .slice A2 n2 c2), (2, .int .i64 s), (3, .int .i64 id), (4, .func (.func g) #[] lb), (5, .pointer (some ⟨b2, 0, none⟩)), (10, .slice A1_16 n1_16 c1_16), (11, .int .i64 lt), (12, .bool fd), (13, .slice A0_13 n0_13 c0_13), (16, .slice A1_16 n1_16 c1_16), (17, .int .i64 lt), (18, .bool fd), (26, .slice A2 n2 c2), (27, .int .i64 ((n2 : Nat) : Int)), (28, .int .i64 ((j : Nat) : Int)), (29, .bool false), (44, .int .i64 ((2 ^ n0_13 : Nat) : Int)), (45, .int .i64 ((t : Nat) : Int)), (46, .bool false)] (fun U306 => ?_)
      refine h36 _ _ ?_
      refine wp_ret ?_
      try simp only [Exit.then]
      refine ret3 (v := .slice A1_16 n1_16 c1_16) (x := .int .i64 lt) (y := .bool fd) rfl (by kernel_rfl) (by kernel_rfl) (by kernel_rfl) ?_
      obtain ⟨e1, e2, e3⟩ := best_fin (r := bestOf (cutB ps vs s id) h (openIds vs)) (by unfold bestOf; rw [show 2 ^ (openIds vs).length = t by rw [show (openIds vs).length = n0_13 by omega]; omega]; exact hst) hnf
      have hbl := rd_ints_len (own_rd ho1_16)
      exact ⟨_, _, by rw [← e1, ← e2, ← e3, hbl], (by rw [← e1, hbl]; exact ho1_16), c110⟩

end Go.Proofs.Ytnfmdkbelbppdaa
