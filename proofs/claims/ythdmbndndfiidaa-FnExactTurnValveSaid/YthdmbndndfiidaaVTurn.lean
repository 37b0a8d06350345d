/- A valve is turned: both packages answer alike. -/
import Derived.Test.YthdmbndndfiidaaVSeg
import Derived.Test.YthdmbndndfiidaaVRow
namespace Go.Proofs.Ythdmbndndfiidaa
open Go.RowKit
set_option linter.unusedVariables false
set_option linter.unusedSimpArgs false

abbrev idQ (a : Int) : Vv → Bool := fun v => decide (v.id = a)
def turnOk (vs : List Vv) (a : Int) (b : Bool) : Bool := decide (0 ≤ idxV (idQ a) vs) && (match vs[(idxV (idQ a) vs).toNat]? with | some v => !(v.shut == b) | none => false)
def turned (vs : List Vv) (a : Int) (b : Bool) : List Vv := match vs[(idxV (idQ a) vs).toNat]? with | some v => vs.set (idxV (idQ a) vs).toNat { v with shut := b } | none => []
theorem turned_len (vs : List Vv) (a : Int) (b : Bool) : (turned vs a b).length ≤ vs.length := by
  unfold turned; split <;> simp
theorem turnOk_at {vs : List Vv} {a : Int} {b : Bool} {k : Nat} {x : Vv} (e : idxV (idQ a) vs = (k : Int)) (hx : vs[k]? = some x) : turnOk vs a b = !(x.shut == b) := by
  unfold turnOk; rw [e, Int.toNat_natCast, hx, decide_eq_true (by omega), Bool.true_and]
theorem turned_at {vs : List Vv} {a : Int} {b : Bool} {k : Nat} {x : Vv} (e : idxV (idQ a) vs = (k : Int)) (hx : vs[k]? = some x) : turned vs a b = vs.set k { x with shut := b } := by
  unfold turned; rw [e, Int.toNat_natCast, hx]
def TurnValve_v1 (m : Int) (ps : List Pp) (vs : List Vv) (a : Int) (b : Bool) : Bool := goodV m ps vs && turnOk vs a b
def TurnValve_v0 (m : Int) (ps : List Pp) (vs : List Vv) (a : Int) (b : Bool) : List Vv := if TurnValve_v1 m ps vs a b = true then turned vs a b else []
theorem TurnValve_len (m : Int) (ps : List Pp) (vs : List Vv) (a : Int) (b : Bool) : (TurnValve_v0 m ps vs a b).length ≤ 1048576 := by
  unfold TurnValve_v0
  split
  · rename_i h
    have hg : goodV m ps vs = true := by unfold TurnValve_v1 at h; rw [Bool.and_eq_true] at h; exact h.1
    have := (goodV_of hg).len
    have := turned_len vs a b
    omega
  · simp
theorem fin_valves {w w' : World} {e : TypeId} {A : Option Addr} {n c : Nat} {zs us : List Vv} {b vb : Bool} (how : w'.ownsRow w.heap.size e 4 (.slice A n c) n (valvesV zs)) (hz : zs = us) (hb : b = vb) (bel : Below w.heap.size w w') :
    ∃ A' d, Ending.returned (.tuple #[.slice A n c, .bool b]) = .returned (.tuple #[.slice A' us.length d, .bool vb]) ∧ w'.ownsRow w.heap.size e 4 (.slice A' us.length d) us.length (valvesV us) ∧ Below w.heap.size w w' := by
  subst hz hb
  have hl := rd_valves_len (own_rd how)
  subst hl
  exact ⟨_, _, rfl, how, bel⟩

set_option maxRecDepth 100000 in
set_option maxHeartbeats 1000000 in
theorem TurnValve_impl (m : Int) (A : Option Addr) (n c : Nat) (ps : List Pp) (A2 : Option Addr) (n2 c2 : Nat) (vs : List Vv) (a : Int) (b : Bool) (w : World) (ha : Rd w 4 A n (pipesV ps)) (hb : Rd w 4 A2 n2 (valvesV vs)) (hn : n ≤ 1048576) (hn2 : n2 ≤ 1048576) (hfm : Fm A n c) (hfm2 : Fm A2 n2 c2) :
    Calls Try.prog 36 #[.agg #[.int .i64 m, .slice A n c], .slice A2 n2 c2, .int .i64 a, .bool b] w fun e w' => ∃ A' d, e = .returned (.tuple #[.slice A' (TurnValve_v0 m ps vs a b).length d, .bool (TurnValve_v1 m ps vs a b)]) ∧ w'.ownsRow w.heap.size 59 4 (.slice A' (TurnValve_v0 m ps vs a b).length d) (TurnValve_v0 m ps vs a b).length (valvesV (TurnValve_v0 m ps vs a b)) ∧ Below w.heap.size w w' := by
  have hl := rd_pipes_len ha
  have hl2 := rd_valves_len hb
  go_enter Try.func36, Try.ntmps36
  refine wp_seq_k (fun K1 h1 => ?_)
  refine W.region_plain (row := none) [(0, true), (1, false), (2, false)] (by kernel_rfl) ?_
  have s1 := SG.self w none
  refine W.sn (fun b => .pointer (some ⟨b, 0, none⟩)) #[.int .i64 m, .slice A n c] 31 s1 rfl (by kernel_rfl) rfl (fun _ => by kernel_rfl) (fun b2 w3 hb4 k5 x6 s7 => ?_)
  have lo8 : w.heap.size ≤ b2 := by have := ((SG.belowR (Below.refl _ _) s1 (fun kq e => by cases e))).size; omega
  refine W.sq (v := .slice none 0 0) rfl (r_assign rfl (by kernel_rfl)) (by kernel_rfl) rfl rfl ?_
  refine W.sq (v := .bool false) rfl (r_assign rfl (by kernel_rfl)) (by kernel_rfl) rfl rfl ?_
  refine W.sch_end (l' := [.agg #[.int .i64 m, .slice A n c], .slice A2 n2 c2, .int .i64 a, .bool b, .pointer (some ⟨b2, 0, none⟩), undef, undef, undef, .slice none 0 0, .bool false, undef, undef, undef, undef, undef, undef, undef, undef, undef, undef, undef, undef, undef, undef, undef, undef, undef, undef, undef, undef, undef, undef, undef, undef, undef, undef, undef, undef, undef, undef, undef]) (by kernel_rfl) ?_
  have c9 := (SG.belowR (Below.refl _ _) s7 (fun kq e => by cases e))
  refine h1 _ _ ?_
  refine wp_seq_k (fun K2 h2 => ?_)
  refine W.region_plain (row := none) [(0, false), (1, false), (2, true), (3, false)] (by kernel_rfl) ?_
  have s10 := SG.self w3 none
  refine W.sq (v := .slice A2 n2 c2) rfl (r_move rfl (by kernel_rfl)) (by kernel_rfl) rfl rfl ?_
  refine W.sq (v := .int .i64 a) rfl (r_move rfl (by kernel_rfl)) (by kernel_rfl) rfl rfl ?_
  refine W.sc (vs := [.slice A2 n2 c2, .int .i64 a]) rfl rfl (by kernel_rfl) (by kernel_rfl) (by kernel_rfl) rfl (valveIndex_any A2 n2 c2 vs a _ (Rd.kept hb (SG.belowR c9 s10 (fun kq e => by cases e))) (by omega)) ?_
  rintro e w12 ⟨rfl, b11⟩
  have s13 := SG.of_below s10 b11
  refine ⟨_, rfl, s13, ?_⟩
  refine W.sq (v := .int .i64 (idxV (idQ a) vs)) rfl (r_assign rfl (by kernel_rfl)) (by kernel_rfl) rfl rfl ?_
  refine W.sch_endU (fun U14 => [.agg #[.int .i64 m, .slice A n c], .slice A2 n2 c2, .int .i64 a, .bool b, .pointer (some ⟨b2, 0, none⟩), undef, undef, undef, .slice none 0 0, .bool false, .int .i64 (idxV (idQ a) vs), undef, U14 12, U14 13, U14 14, undef, undef, undef, undef, undef, undef, undef, undef, undef, undef, undef, undef, undef, undef, undef, undef, undef, undef, undef, undef, undef, undef, undef, undef, undef, undef]) (by kernel_rfl) (fun U14 => ?_)
  have x6 := SG.blk s13 x6 (by simp)
  have c15 := (SG.belowR c9 s13 (fun kq e => by cases e))
  refine h2 _ _ ?_
  refine wp_seq_k (fun K3 h3 => ?_)
  refine wp_seq_k (fun K4 h4 => ?_)
  refine W.region_plain (row := none) [(0, false), (1, false), (2, true), (3, false), (4, false), (5, false), (6, false), (7, false), (8, false), (9, false), (10, false), (11, false), (12, false), (13, false), (14, false), (15, false), (16, false)] (by kernel_rfl) ?_
  have s16 := SG.self w12 none
  refine W.sq (v := .agg #[.int .i64 m, .slice A n c]) rfl (r_load2 rfl (by kernel_rfl) (by kernel_rfl) (by kernel_rfl) (sgS (blk_cell (j := 0) x6 (by kernel_rfl)) (by simp)) (sgS (blk_cell (j := 1) x6 (by kernel_rfl)) (by simp))) (by kernel_rfl) rfl rfl ?_
  refine W.sq (v := .slice A2 n2 c2) rfl (r_move rfl (by kernel_rfl)) (by kernel_rfl) rfl rfl ?_
  refine W.sc (vs := [.agg #[.int .i64 m, .slice A n c], .slice A2 n2 c2]) rfl rfl (by kernel_rfl) (by kernel_rfl) (by kernel_rfl) rfl (IsValidValves_any m A n c ps A2 n2 c2 vs _ (Rd.kept ha (SG.belowR c15 s16 (fun kq e => by cases e))) (Rd.kept hb (SG.belowR c15 s16 (fun kq e => by cases e))) (by omega) (by omega) hfm2) ?_
  rintro e w18 ⟨rfl, b17⟩
  have s19 := SG.of_below s16 b17
  refine ⟨_, rfl, s19, ?_⟩
  rcases Bool.eq_false_or_eq_true (goodV m ps vs) with q20 | q20
  · rw [q20]
    have hv9 := goodV_of q20
    have hg := hv9.net
    have hgl := hg.lo
    have hgh := hg.hi
    have hp := hg.pipesIn
    have hlen10 := hg.len
    have hu := hv9.uniq
    have hvl := hv9.len
    refine W.sq (v := .bool false) rfl (r_not (b := true) rfl (by kernel_rfl) rfl) (by kernel_rfl) rfl rfl ?_
    refine W.sq (v := .bool false) rfl (r_move rfl (by kernel_rfl)) (by kernel_rfl) rfl rfl ?_
    refine W.sq (v := .int .i64 (idxV (idQ a) vs)) rfl (r_move rfl (by kernel_rfl)) (by kernel_rfl) rfl rfl ?_
    by_cases q21 : ((idxV (idQ a) vs) : Int) < (0 : Int)
    · refine W.sq (v := .bool true) rfl (r_lss (m := (idxV (idQ a) vs)) (n := 0) rfl (by kernel_rfl) (by kernel_rfl) (decide_eq_true q21)) (by kernel_rfl) rfl rfl ?_
      refine W.sq (v := .bool true) rfl (r_pick (b := false) rfl (by kernel_rfl) (by kernel_rfl)) (by kernel_rfl) rfl rfl ?_
      refine W.sq (v := .bool true) rfl (r_move rfl (by kernel_rfl)) (by kernel_rfl) rfl rfl ?_
      refine W.sk s19 rfl (by kernel_rfl) rfl rfl ?_
      refine W.sk s19 rfl (by kernel_rfl) rfl rfl ?_
      refine W.sk s19 rfl (by kernel_rfl) rfl rfl ?_
      refine W.sk s19 rfl (by kernel_rfl) rfl rfl ?_
      refine W.sk s19 rfl (by kernel_rfl) rfl rfl ?_
      refine W.sk s19 rfl (by kernel_rfl) rfl rfl ?_
      refine W.sk s19 rfl (by kernel_rfl) rfl rfl ?_
      refine W.sq (v := .bool true) rfl (r_pick (b := true) rfl (by kernel_rfl) (by kernel_rfl)) (by kernel_rfl) rfl rfl ?_
      refine W.sch_endU (fun U22 => [.agg #[.int .i64 m, .slice A n c], .slice A2 n2 c2, .int .i64 a, .bool b, .pointer (some ⟨b2, 0, none⟩), undef, undef, undef, .slice none 0 0, .bool false, .int .i64 (idxV (idQ a) vs), undef, (U14 12), (U14 13), (U14 14), U22 15, U22 16, U22 17, U22 18, U22 19, U22 20, U22 21, U22 22, U22 23, undef, undef, undef, undef, undef, undef, undef, .bool true, undef, undef, undef, undef, undef, undef, undef, undef, undef]) (by kernel_rfl) (fun U22 => ?_)
      have x6 := SG.blk s19 x6 (by simp)
      have c23 := (SG.belowR c15 s19 (fun kq e => by cases e))
      refine h4 _ _ ?_
      refine wp_cond_true (by kernel_rfl) ?_
      refine wp_seq_k (fun K5 h5 => ?_)
      refine W.region_quiet [(0, false), (1, false)] (by kernel_rfl) ?_
      refine W.sq (v := .slice none 0 0) rfl (r_assign rfl (by kernel_rfl)) (by kernel_rfl) rfl rfl ?_
      refine W.sq (v := .bool false) rfl (r_assign rfl (by kernel_rfl)) (by kernel_rfl) rfl rfl ?_
      refine W.sch_end (l' := [.agg #[.int .i64 m, .slice A n c], .slice A2 n2 c2, .int .i64 a, .bool b, .pointer (some ⟨b2, 0, none⟩), undef, undef, undef, .slice none 0 0, .bool false, .int .i64 (idxV (idQ a) vs), undef, (U14 12), (U14 13), (U14 14), (U22 15), (U22 16), (U22 17), (U22 18), (U22 19), (U22 20), (U22 21), (U22 22), (U22 23), undef, undef, undef, undef, undef, undef, undef, .bool true, undef, undef, undef, undef, undef, undef, undef, undef, undef]) (by kernel_rfl) ?_
      refine h5 _ _ ?_
      refine wp_ret ?_
      try simp only [Exit.then]
      refine ret2 (v := .slice none 0 0) (x := .bool false) rfl (by kernel_rfl) (by kernel_rfl) ?_
      have ok24 : TurnValve_v1 m ps vs a b = false := by unfold TurnValve_v1 turnOk; rw [decide_eq_false (by omega), Bool.false_and, Bool.and_false]
      exact fin_valves (zs := []) (World.ownsRow_nil _ _ _ _) (by unfold TurnValve_v0; rw [if_neg (by rw [ok24]; simp)]) ok24.symm c23
    · refine W.sq (v := .bool false) rfl (r_lss (m := (idxV (idQ a) vs)) (n := 0) rfl (by kernel_rfl) (by kernel_rfl) (decide_eq_false q21)) (by kernel_rfl) rfl rfl ?_
      refine W.sq (v := .bool false) rfl (r_pick (b := false) rfl (by kernel_rfl) (by kernel_rfl)) (by kernel_rfl) rfl rfl ?_
      refine W.sq (v := .bool false) rfl (r_move rfl (by kernel_rfl)) (by kernel_rfl) rfl rfl ?_
      refine W.sq (v := .slice A2 n2 c2) rfl (r_move rfl (by kernel_rfl)) (by kernel_rfl) rfl rfl ?_
      refine W.sq (v := .int .i64 (idxV (idQ a) vs)) rfl (r_move rfl (by kernel_rfl)) (by kernel_rfl) rfl rfl ?_
      obtain ⟨k9, x9, e9, hx9, hq9⟩ := idx_some (vs := vs) (q := idQ a) (by omega)
      have hk9 := (List.getElem?_eq_some_iff.1 hx9).1
      obtain ⟨b25, o26, hA27, hb28, hc29, hc30, hc31, hc32⟩ := Rd.elValve hb hx9
      refine W.sq (v := .pointer (some ⟨b25, o26 + k9 * 4, none⟩)) rfl (r_idx (n := n2) (c := c2) (k := k9) rfl (by kernel_rfl) hA27 (evk (z := (idxV (idQ a) vs)) (by kernel_rfl) e9) (by kernel_rfl) (by have := hl2; omega)) (by kernel_rfl) rfl rfl ?_
      refine W.sq (v := .pointer (some ⟨b25, o26 + k9 * 4 + 3, none⟩)) rfl (r_field (k := 3) rfl (by kernel_rfl) (by kernel_rfl)) (by kernel_rfl) rfl rfl ?_
      refine W.sq (v := .bool x9.shut) rfl (r_load rfl (by kernel_rfl) (by kernel_rfl) (sgS (later c15 hc32) (by simp))) (by kernel_rfl) rfl rfl ?_
      refine W.sq (v := .bool b) rfl (r_move rfl (by kernel_rfl)) (by kernel_rfl) rfl rfl ?_
      by_cases q33 : x9.shut = b
      · refine W.sq (v := .bool true) rfl (r_eqlB (m := x9.shut) (n := b) rfl (by kernel_rfl) (by kernel_rfl) (by kernel_rfl) (beq_iff_eq.2 q33)) (by kernel_rfl) rfl rfl ?_
        refine W.sq (v := .bool true) rfl (r_pick (b := false) rfl (by kernel_rfl) (by kernel_rfl)) (by kernel_rfl) rfl rfl ?_
        refine W.sch_endU (fun U34 => [.agg #[.int .i64 m, .slice A n c], .slice A2 n2 c2, .int .i64 a, .bool b, .pointer (some ⟨b2, 0, none⟩), undef, undef, undef, .slice none 0 0, .bool false, .int .i64 (idxV (idQ a) vs), undef, (U14 12), (U14 13), (U14 14), U34 15, U34 16, U34 17, U34 18, U34 19, U34 20, U34 21, U34 22, U34 23, U34 24, U34 25, U34 26, U34 27, U34 28, U34 29, U34 30, .bool true, undef, undef, undef, undef, undef, undef, undef, undef, undef]) (by kernel_rfl) (fun U34 => ?_)
        have x6 := SG.blk s19 x6 (by simp)
        have c35 := (SG.belowR c15 s19 (fun kq e => by cases e))
        refine h4 _ _ ?_
        refine wp_cond_true (by kernel_rfl) ?_
        refine wp_seq_k (fun K6 h6 => ?_)
        refine W.region_quiet [(0, false), (1, false)] (by kernel_rfl) ?_
        refine W.sq (v := .slice none 0 0) rfl (r_assign rfl (by kernel_rfl)) (by kernel_rfl) rfl rfl ?_
        refine W.sq (v := .bool false) rfl (r_assign rfl (by kernel_rfl)) (by kernel_rfl) rfl rfl ?_
        refine W.sch_end (l' := [.agg #[.int .i64 m, .slice A n c], .slice A2 n2 c2, .int .i64 a, .bool b, .pointer (some ⟨b2, 0, none⟩), undef, undef, undef, .slice none 0 0, .bool false, .int .i64 (idxV (idQ a) vs), undef, (U14 12), (U14 13), (U14 14), (U34 15), (U34 16), (U34 17), (U34 18), (U34 19), (U34 20), (U34 21), (U34 22), (U34 23), (U34 24), (U34 25), (U34 26), (U34 27), (U34 28), (U34 29), (U34 30), .bool true, undef, undef, undef, undef, undef, undef, undef, undef, undef]) (by kernel_rfl) ?_
        refine h6 _ _ ?_
        refine wp_ret ?_
        try simp only [Exit.then]
        refine ret2 (v := .slice none 0 0) (x := .bool false) rfl (by kernel_rfl) (by kernel_rfl) ?_
        have ok36 : TurnValve_v1 m ps vs a b = false := by unfold TurnValve_v1; rw [turnOk_at e9 hx9, beq_iff_eq.2 q33, Bool.not_true, Bool.and_false]
        exact fin_valves (zs := []) (World.ownsRow_nil _ _ _ _) (by unfold TurnValve_v0; rw [if_neg (by rw [ok36]; simp)]) ok36.symm c35
      · refine W.sq (v := .bool false) rfl (r_eqlB (m := x9.shut) (n := b) rfl (by kernel_rfl) (by kernel_rfl) (by kernel_rfl) (beq_eq_false_iff_ne.2 q33)) (by kernel_rfl) rfl rfl ?_
        refine W.sq (v := .bool false) rfl (r_pick (b := false) rfl (by kernel_rfl) (by kernel_rfl)) (by kernel_rfl) rfl rfl ?_
        refine W.sch_endU (fun U37 => [.agg #[.int .i64 m, .slice A n c], .slice A2 n2 c2, .int .i64 a, .bool b, .pointer (some ⟨b2, 0, none⟩), undef, undef, undef, .slice none 0 0, .bool false, .int .i64 (idxV (idQ a) vs), undef, (U14 12), (U14 13), (U14 14), U37 15, U37 16, U37 17, U37 18, U37 19, U37 20, U37 21, U37 22, U37 23, U37 24, U37 25, U37 26, U37 27, U37 28, U37 29, U37 30, .bool false, undef, undef, undef, undef, undef, undef, undef, undef, undef]) (by kernel_rfl) (fun U37 => ?_)
        have x6 := SG.blk s19 x6 (by simp)
        have c38 := (SG.belowR c15 s19 (fun kq e => by cases e))
        refine h4 _ _ ?_
        refine wp_cond_false (by kernel_rfl) ?_
        refine wp_skip ?_
        refine h3 _ _ ?_
        refine wp_seq_k (fun K7 h7 => ?_)
        refine W.region_plain (row := none) [(0, true), (1, false), (2, true), (3, false)] (by kernel_rfl) ?_
        have s39 := SG.self w18 none
        refine W.sn (fun b => .slice (some ⟨b, 0, none⟩) 0 0) #[] 59 s39 rfl (by kernel_rfl) rfl (fun _ => by kernel_rfl) (fun b40 w41 hb42 k43 x44 s45 => ?_)
        have lo46 : w.heap.size ≤ b40 := by have := ((SG.belowR c38 s39 (fun kq e => by cases e))).size; omega
        have ne47 : b2 ≠ b40 := by have := blk_lt x6; have := World.grownBy.size s39; omega
        refine W.sq (v := .slice A2 n2 c2) rfl (r_move rfl (by kernel_rfl)) (by kernel_rfl) rfl rfl ?_
        have ho48 := own_empty (base := w.heap.size) (size := 4) x44 lo46
        replace ho48 : World.ownsRow _ _ _ _ _ _ (valvesV []) := ho48
        have nb49 : Nb b2 (.slice (some ⟨b40, 0, none⟩) 0 0) := nb_new (by have := ne47; omega)
        replace ho48 : World.ownsRow _ _ _ _ _ _ (valvesV []) := ho48
        refine W.sapR (e := 59) (size := 4) (base := w.heap.size) (v := .slice (some ⟨b40, 0, none⟩) 0 0) (A := A2) (m := n2) (c := c2) s45 rfl rfl rfl rfl (by kernel_rfl) (by kernel_rfl) (by kernel_rfl) ho48 (Rd.kept hb (SG.belowR c38 s45 (fun kq e => by cases e))) hfm2 (valves_one _) (by omega) (by have := ((SG.belowR c38 s45 (fun kq e => by cases e))).size; omega) (.inr (fun kq e => by have := World.grownBy.size s39; have := hb42; have e' := Option.some.inj e; simp at e'; omega)) (fun A50 cap51 w52 ho53 hg54 hat55 s56 => ?_)
        have nb57 : Nb b2 (.slice A50 (0 + n2) cap51) := nb_app2 nb49 (Nat.lt_of_lt_of_le (blk_lt x6) (World.grownBy.size s45)) hat55
        have ho53 := own_joinV ho53
        have fr58 : ∀ kq, (.slice A50 (0 + n2) cap51 : Value).ownBlock = some kq → w18.heap.size ≤ kq := fun kq e => by
          have hs := World.grownBy.size s45
          rcases hat55 with h | h
          · exact (show ∀ kq, Value.ownBlock _ = some kq → w18.heap.size ≤ kq from (fun kq e => by have := World.grownBy.size s39; have := hb42; have e' := Option.some.inj e; simp at e'; omega)) kq (h.symm.trans e)
          · have := Option.some.inj (h.symm.trans e); omega
        replace ho53 : World.ownsRow _ _ _ _ _ _ (valvesV vs) := ho53
        refine W.sq (v := .slice A50 (0 + n2) cap51) rfl (r_assign rfl (by kernel_rfl)) (by kernel_rfl) rfl rfl ?_
        refine W.sch_endU (fun U59 => [.agg #[.int .i64 m, .slice A n c], .slice A2 n2 c2, .int .i64 a, .bool b, .pointer (some ⟨b2, 0, none⟩), undef, undef, undef, .slice none 0 0, .bool false, .int .i64 (idxV (idQ a) vs), .slice A50 (0 + n2) cap51, (U14 12), (U14 13), (U14 14), (U37 15), (U37 16), (U37 17), (U37 18), (U37 19), (U37 20), (U37 21), (U37 22), (U37 23), (U37 24), (U37 25), (U37 26), (U37 27), (U37 28), (U37 29), (U37 30), .bool false, U59 32, U59 33, U59 34, undef, undef, undef, undef, undef, undef]) (by kernel_rfl) (fun U59 => ?_)
        have x6 := SG.blk s56 x6 (by simp)
        have c60 := (SG.belowR c38 s56 (fun kq e => by cases e))
        refine h7 _ _ ?_
        refine wp_seq_k (fun K8 h8 => ?_)
        refine W.region_plain (row := (Value.ownBlock (.slice A50 (0 + n2) cap51))) [(0, false), (1, false), (2, false), (3, false), (4, false), (5, true)] (by kernel_rfl) ?_
        have s61 := SG.self w52 (Value.ownBlock (.slice A50 (0 + n2) cap51))
        refine W.sq (v := .slice A50 (0 + n2) cap51) rfl (r_move rfl (by kernel_rfl)) (by kernel_rfl) rfl rfl ?_
        refine W.sq (v := .int .i64 (idxV (idQ a) vs)) rfl (r_move rfl (by kernel_rfl)) (by kernel_rfl) rfl rfl ?_
        refine W.sq (v := .bool b) rfl (r_move rfl (by kernel_rfl)) (by kernel_rfl) rfl rfl ?_
        obtain ⟨g62, rfl, _, _⟩ := own_addr ho53 (by omega)
        refine W.sq (v := .pointer (some ⟨g62, 0 + k9 * 4, none⟩)) rfl (r_idx (n := (0 + n2)) (c := cap51) (k := k9) (size := 4) rfl (by kernel_rfl) rfl (evk (z := (idxV (idQ a) vs)) (by kernel_rfl) e9) (by kernel_rfl) (by omega)) (by kernel_rfl) rfl rfl ?_
        refine W.sq (v := .pointer (some ⟨g62, 0 + k9 * 4 + 3, none⟩)) rfl (r_field (k := 3) rfl (by kernel_rfl) (by kernel_rfl)) (by kernel_rfl) rfl rfl ?_
        refine W.sst (base := w.heap.size) (e := 59) (size := 4) (n := (0 + n2)) (c := cap51) (j := 0 + k9 * 4 + 3) (u := .bool b) (news := [.bool b]) s61 rfl (by kernel_rfl) rfl rfl (by kernel_rfl) (by kernel_rfl) ho53 (by kernel_rfl) (by kernel_rfl) (by kernel_rfl) (by simp only [List.length_cons, List.length_nil]; omega) (.inl rfl) (fun w63 ho64 g65 s66 => ?_)
        have ho64 := own_setS hx9 ho64
        refine W.sch_endU (fun U67 => [.agg #[.int .i64 m, .slice A n c], .slice A2 n2 c2, .int .i64 a, .bool b, .pointer (some ⟨b2, 0, none⟩), undef, undef, undef, .slice none 0 0, .bool false, .int .i64 (idxV (idQ a) vs), .slice (some ⟨g62, 0, none⟩) (0 + n2) cap51, (U14 12), (U14 13), (U14 14), (U37 15), (U37 16), (U37 17), (U37 18), (U37 19), (U37 20), (U37 21), (U37 22), (U37 23), (U37 24), (U37 25), (U37 26), (U37 27), (U37 28), (U37 29), (U37 30), .bool false, (U59 32), (U59 33), (U59 34), U67 35, U67 36, U67 37, U67 38, U67 39, undef]) (by kernel_rfl) (fun U67 => ?_)
        have x6 := SG.blk s66 x6 nb57
        have c68 := (SG.belowR c60 s66 (fun kq e => (World.ownsRow.lt ho53 kq e).1))
        refine h8 _ _ ?_
        refine wp_seq_k (fun K9 h9 => ?_)
        refine W.region_quiet [(0, false), (1, false), (2, false)] (by kernel_rfl) ?_
        refine W.sq (v := .slice (some ⟨g62, 0, none⟩) (0 + n2) cap51) rfl (r_move rfl (by kernel_rfl)) (by kernel_rfl) rfl rfl ?_
        refine W.sq (v := .slice (some ⟨g62, 0, none⟩) (0 + n2) cap51) rfl (r_assign rfl (by kernel_rfl)) (by kernel_rfl) rfl rfl ?_
        refine W.sq (v := .bool true) rfl (r_assign rfl (by kernel_rfl)) (by kernel_rfl) rfl rfl ?_
        refine W.sch_endU (fun U69 => [.agg #[.int .i64 m, .slice A n c], .slice A2 n2 c2, .int .i64 a, .bool b, .pointer (some ⟨b2, 0, none⟩), undef, undef, undef, .slice (some ⟨g62, 0, none⟩) (0 + n2) cap51, .bool true, .int .i64 (idxV (idQ a) vs), .slice (some ⟨g62, 0, none⟩) (0 + n2) cap51, (U14 12), (U14 13), (U14 14), (U37 15), (U37 16), (U37 17), (U37 18), (U37 19), (U37 20), (U37 21), (U37 22), (U37 23), (U37 24), (U37 25), (U37 26), (U37 27), (U37 28), (U37 29), (U37 30), .bool false, (U59 32), (U59 33), (U59 34), (U67 35), (U67 36), (U67 37), (U67 38), (U67 39), U69 40]) (by kernel_rfl) (fun U69 => ?_)
        refine h9 _ _ ?_
        refine wp_ret ?_
        try simp only [Exit.then]
        refine ret2 (v := .slice (some ⟨g62, 0, none⟩) (0 + n2) cap51) (x := .bool true) rfl (by kernel_rfl) (by kernel_rfl) ?_
        have ok70 : TurnValve_v1 m ps vs a b = true := by unfold TurnValve_v1; rw [q20, turnOk_at e9 hx9, beq_eq_false_iff_ne.2 q33]; rfl
        exact fin_valves ho64 (by unfold TurnValve_v0; rw [if_pos ok70, turned_at e9 hx9]) ok70.symm c68
  · rw [q20]
    refine W.sq (v := .bool true) rfl (r_not (b := false) rfl (by kernel_rfl) rfl) (by kernel_rfl) rfl rfl ?_
    refine W.sq (v := .bool true) rfl (r_move rfl (by kernel_rfl)) (by kernel_rfl) rfl rfl ?_
    refine W.sk s19 rfl (by kernel_rfl) rfl rfl ?_
    refine W.sk s19 rfl (by kernel_rfl) rfl rfl ?_
    refine W.sq (v := .bool true) rfl (r_pick (b := true) rfl (by kernel_rfl) (by kernel_rfl)) (by kernel_rfl) rfl rfl ?_
    refine W.sq (v := .bool true) rfl (r_move rfl (by kernel_rfl)) (by kernel_rfl) rfl rfl ?_
    refine W.sk s19 rfl (by kernel_rfl) rfl rfl ?_
    refine W.sk s19 rfl (by kernel_rfl) rfl rfl ?_
    refine W.sk s19 rfl (by kernel_rfl) rfl rfl ?_
    refine W.sk s19 rfl (by kernel_rfl) rfl rfl ?_
    refine W.sk s19 rfl (by kernel_rfl) rfl rfl ?_
    refine W.sk s19 rfl (by kernel_rfl) rfl rfl ?_
    refine W.sk s19 rfl (by kernel_rfl) rfl rfl ?_
    refine W.sq (v := .bool true) rfl (r_pick (b := true) rfl (by kernel_rfl) (by kernel_rfl)) (by kernel_rfl) rfl rfl ?_
    refine W.sch_endU (fun U71 => [.agg #[.int .i64 m, .slice A n c], .slice A2 n2 c2, .int .i64 a, .bool b, .pointer (some ⟨b2, 0, none⟩), undef, undef, undef, .slice none 0 0, .bool false, .int .i64 (idxV (idQ a) vs), undef, (U14 12), (U14 13), (U14 14), U71 15, U71 16, U71 17, U71 18, U71 19, undef, undef, U71 22, U71 23, undef, undef, undef, undef, undef, undef, undef, .bool true, undef, undef, undef, undef, undef, undef, undef, undef, undef]) (by kernel_rfl) (fun U71 => ?_)
    have x6 := SG.blk s19 x6 (by simp)
    have c72 := (SG.belowR c15 s19 (fun kq e => by cases e))
    refine h4 _ _ ?_
    refine wp_cond_true (by kernel_rfl) ?_
    refine wp_seq_k (fun K10 h10 => ?_)
    refine W.region_quiet [(0, false), (1, false)] (by kernel_rfl) ?_
    refine W.sq (v := .slice none 0 0) rfl (r_assign rfl (by kernel_rfl)) (by kernel_rfl) rfl rfl ?_
    refine W.sq (v := .bool false) rfl (r_assign rfl (by kernel_rfl)) (by kernel_rfl) rfl rfl ?_
    refine W.sch_end (l' := [.agg #[.int .i64 m, .slice A n c], .slice A2 n2 c2, .int .i64 a, .bool b, .pointer (some ⟨b2, 0, none⟩), undef, undef, undef, .slice none 0 0, .bool false, .int .i64 (idxV (idQ a) vs), undef, (U14 12), (U14 13), (U14 14), (U71 15), (U71 16), (U71 17), (U71 18), (U71 19), undef, undef, (U71 22), (U71 23), undef, undef, undef, undef, undef, undef, undef, .bool true, undef, undef, undef, undef, undef, undef, undef, undef, undef]) (by kernel_rfl) ?_
    refine h10 _ _ ?_
    refine wp_ret ?_
    try simp only [Exit.then]
    refine ret2 (v := .slice none 0 0) (x := .bool false) rfl (by kernel_rfl) (by kernel_rfl) ?_
    have ok73 : TurnValve_v1 m ps vs a b = false := by unfold TurnValve_v1; rw [q20]; rfl
    exact fin_valves (zs := []) (World.ownsRow_nil _ _ _ _) (by unfold TurnValve_v0; rw [if_neg (by rw [ok73]; simp)]) ok73.symm c72

set_option maxRecDepth 100000 in
set_option maxHeartbeats 1000000 in
theorem l4Turned_any (A2 : Option Addr) (n2 c2 : Nat) (vs : List Vv) (k : Nat) (x : Vv) (b : Bool) (w : World) (hb : Rd w 4 A2 n2 (valvesV vs)) (hn2 : n2 ≤ 1048576) (hfm2 : Fm A2 n2 c2) (hx : vs[k]? = some x) :
    Calls Try.prog 77 #[.slice A2 n2 c2, .int .i64 ((k : Nat) : Int), .bool b] w fun e w' => ∃ A' n' c', e = .returned (.slice A' n' c') ∧ w'.ownsRow w.heap.size 59 4 (.slice A' n' c') n' (valvesV (vs.set k { x with shut := b })) ∧ Below w.heap.size w w' := by
  have hl2 := rd_valves_len hb
  have hk9 := (List.getElem?_eq_some_iff.1 hx).1
  go_enter Try.func77, Try.ntmps77
  refine wp_seq_k (fun K1 h1 => ?_)
  refine W.region_quiet [(0, false)] (by kernel_rfl) ?_
  refine W.sq (v := .slice none 0 0) rfl (r_assign rfl (by kernel_rfl)) (by kernel_rfl) rfl rfl ?_
  refine W.sch_end (l' := [.slice A2 n2 c2, .int .i64 ((k : Nat) : Int), .bool b, undef, undef, undef, .slice none 0 0, undef, undef, undef, undef, undef, undef, undef, undef, undef, undef, undef, undef, undef, undef, undef, undef]) (by kernel_rfl) ?_
  refine h1 _ _ ?_
  refine wp_seq_k (fun K2 h2 => ?_)
  refine W.region_plain (row := none) [(0, true), (1, false), (2, true), (3, false)] (by kernel_rfl) ?_
  have s1 := SG.self w none
  refine W.sn (fun b => .slice (some ⟨b, 0, none⟩) 0 0) #[] 59 s1 rfl (by kernel_rfl) rfl (fun _ => by kernel_rfl) (fun b2 w3 hb4 k5 x6 s7 => ?_)
  have lo8 : w.heap.size ≤ b2 := by have := ((SG.belowR (Below.refl _ _) s1 (fun kq e => by cases e))).size; omega
  refine W.sq (v := .slice A2 n2 c2) rfl (r_move rfl (by kernel_rfl)) (by kernel_rfl) rfl rfl ?_
  have ho9 := own_empty (base := w.heap.size) (size := 4) x6 lo8
  replace ho9 : World.ownsRow _ _ _ _ _ _ (valvesV []) := ho9
  replace ho9 : World.ownsRow _ _ _ _ _ _ (valvesV []) := ho9
  refine W.sapR (e := 59) (size := 4) (base := w.heap.size) (v := .slice (some ⟨b2, 0, none⟩) 0 0) (A := A2) (m := n2) (c := c2) s7 rfl rfl rfl rfl (by kernel_rfl) (by kernel_rfl) (by kernel_rfl) ho9 (Rd.kept hb (SG.belowR (Below.refl _ _) s7 (fun kq e => by cases e))) hfm2 (valves_one _) (by omega) (by have := ((SG.belowR (Below.refl _ _) s7 (fun kq e => by cases e))).size; omega) (.inr (fun kq e => by have := World.grownBy.size s1; have := hb4; have e' := Option.some.inj e; simp at e'; omega)) (fun A10 cap11 w12 ho13 hg14 hat15 s16 => ?_)
  have ho13 := own_joinV ho13
  have fr17 : ∀ kq, (.slice A10 (0 + n2) cap11 : Value).ownBlock = some kq → w.heap.size ≤ kq := fun kq e => by
    have hs := World.grownBy.size s7
    rcases hat15 with h | h
    · exact (show ∀ kq, Value.ownBlock _ = some kq → w.heap.size ≤ kq from (fun kq e => by have := World.grownBy.size s1; have := hb4; have e' := Option.some.inj e; simp at e'; omega)) kq (h.symm.trans e)
    · have := Option.some.inj (h.symm.trans e); omega
  replace ho13 : World.ownsRow _ _ _ _ _ _ (valvesV vs) := ho13
  refine W.sq (v := .slice A10 (0 + n2) cap11) rfl (r_assign rfl (by kernel_rfl)) (by kernel_rfl) rfl rfl ?_
  refine W.sch_endU (fun U18 => [.slice A2 n2 c2, .int .i64 ((k : Nat) : Int), .bool b, undef, undef, undef, .slice none 0 0, .slice A10 (0 + n2) cap11, undef, U18 9, U18 10, U18 11, undef, undef, undef, undef, undef, undef, undef, undef, undef, undef, undef]) (by kernel_rfl) (fun U18 => ?_)
  have c19 := (SG.belowR (Below.refl _ _) s16 (fun kq e => by cases e))
  refine h2 _ _ ?_
  refine wp_seq_k (fun K3 h3 => ?_)
  refine W.region_plain (row := none) [(0, false), (1, false), (2, false), (3, false), (4, true), (5, true)] (by kernel_rfl) ?_
  have s20 := SG.self w12 none
  refine W.sq (v := .slice A10 (0 + n2) cap11) rfl (r_move rfl (by kernel_rfl)) (by kernel_rfl) rfl rfl ?_
  refine W.sq (v := .int .i64 ((k : Nat) : Int)) rfl (r_move rfl (by kernel_rfl)) (by kernel_rfl) rfl rfl ?_
  obtain ⟨g21, rfl, _, _⟩ := own_addr ho13 (by omega)
  refine W.sq (v := .pointer (some ⟨g21, 0 + k * 4, none⟩)) rfl (r_idx (n := (0 + n2)) (c := cap11) (k := k) (size := 4) rfl (by kernel_rfl) rfl (by kernel_rfl) (by kernel_rfl) (by omega)) (by kernel_rfl) rfl rfl ?_
  refine W.sq (v := .agg #[.int .i64 x.id, .int .i64 x.pipe, .int .i64 x.node, .bool x.shut]) rfl (r_load4 rfl (by kernel_rfl) (by kernel_rfl) (by kernel_rfl) (sgS ((own_atV ho13 hx).1) (by simp)) (sgS ((own_atV ho13 hx).2.1) (by simp)) (sgS ((own_atV ho13 hx).2.2.1) (by simp)) (sgS ((own_atV ho13 hx).2.2.2) (by simp))) (by kernel_rfl) rfl rfl ?_
  refine W.sn (fun b => .pointer (some ⟨b, 0, none⟩)) #[.int .i64 0, .int .i64 0, .int .i64 0, .bool false] 59 s20 rfl (by kernel_rfl) rfl (fun _ => by kernel_rfl) (fun b22 w23 hb24 k25 x26 s27 => ?_)
  have lo28 : w.heap.size ≤ b22 := by have := ((SG.belowR c19 s20 (fun kq e => by cases e))).size; omega
  have nb29 : Nb b22 (.slice (some ⟨g21, 0, none⟩) (0 + n2) cap11) := nb_hi ho13 (Nat.le_of_eq hb24)
  have ho30 := own_kept ho13 k25
  refine W.ss (v := .agg #[.int .i64 x.id, .int .i64 x.pipe, .int .i64 x.node, .bool x.shut]) (j := 0) (news := [.int .i64 x.id, .int .i64 x.pipe, .int .i64 x.node, .bool x.shut]) (cs' := #[.int .i64 x.id, .int .i64 x.pipe, .int .i64 x.node, .bool x.shut]) s27 rfl (by kernel_rfl) rfl rfl (by kernel_rfl) (by kernel_rfl) x26 (by kernel_rfl) (by kernel_rfl) (by simp) (by kernel_rfl) (by kernel_rfl) (.inr (by have := World.grownBy.size s20; have := hb24; omega)) (fun w31 g32 x33 s34 => ?_)
  have ho35 := own_grown ho30 g32 (fun j e1 e2 => by cases e2; exact nb29 e1.symm)
  refine W.sch_endU (fun U36 => [.slice A2 n2 c2, .int .i64 ((k : Nat) : Int), .bool b, undef, undef, undef, .slice none 0 0, .slice (some ⟨g21, 0, none⟩) (0 + n2) cap11, .pointer (some ⟨b22, 0, none⟩), (U18 9), (U18 10), (U18 11), U36 12, U36 13, U36 14, U36 15, undef, undef, undef, undef, undef, undef, undef]) (by kernel_rfl) (fun U36 => ?_)
  have c37 := (SG.belowR c19 s34 (fun kq e => by cases e))
  refine h3 _ _ ?_
  refine wp_seq_k (fun K4 h4 => ?_)
  refine W.region_plain (row := (some b22)) [(0, false), (1, false), (2, true)] (by kernel_rfl) ?_
  have s38 := SG.self w31 (some b22)
  refine W.sq (v := .bool b) rfl (r_move rfl (by kernel_rfl)) (by kernel_rfl) rfl rfl ?_
  refine W.sq (v := .pointer (some ⟨b22, 3, none⟩)) rfl (r_field (k := 3) rfl (by kernel_rfl) (by kernel_rfl)) (by kernel_rfl) rfl rfl ?_
  refine W.ss (v := .bool b) (j := 3) (news := [.bool b]) (cs' := #[.int .i64 x.id, .int .i64 x.pipe, .int .i64 x.node, .bool b]) s38 rfl (by kernel_rfl) rfl rfl (by kernel_rfl) (by kernel_rfl) x33 (by kernel_rfl) (by kernel_rfl) (by simp) (by kernel_rfl) (by kernel_rfl) (.inl rfl) (fun w39 g40 x41 s42 => ?_)
  have ho43 := own_grown ho35 g40 (fun j e1 e2 => by cases e2; exact nb29 e1.symm)
  refine W.sch_endU (fun U44 => [.slice A2 n2 c2, .int .i64 ((k : Nat) : Int), .bool b, undef, undef, undef, .slice none 0 0, .slice (some ⟨g21, 0, none⟩) (0 + n2) cap11, .pointer (some ⟨b22, 0, none⟩), (U18 9), (U18 10), (U18 11), (U36 12), (U36 13), (U36 14), (U36 15), U44 16, U44 17, undef, undef, undef, undef, undef]) (by kernel_rfl) (fun U44 => ?_)
  have c45 := (SG.belowR c37 s42 (fun kq e => by cases e; exact lo28))
  refine h4 _ _ ?_
  refine wp_seq_k (fun K5 h5 => ?_)
  refine W.region_plain (row := (Value.ownBlock (.slice (some ⟨g21, 0, none⟩) (0 + n2) cap11))) [(0, false), (1, false), (2, false), (3, false), (4, true)] (by kernel_rfl) ?_
  have s46 := SG.self w39 (Value.ownBlock (.slice (some ⟨g21, 0, none⟩) (0 + n2) cap11))
  refine W.sq (v := .slice (some ⟨g21, 0, none⟩) (0 + n2) cap11) rfl (r_move rfl (by kernel_rfl)) (by kernel_rfl) rfl rfl ?_
  refine W.sq (v := .int .i64 ((k : Nat) : Int)) rfl (r_move rfl (by kernel_rfl)) (by kernel_rfl) rfl rfl ?_
  refine W.sq (v := .agg #[.int .i64 x.id, .int .i64 x.pipe, .int .i64 x.node, .bool b]) rfl (r_load4 rfl (by kernel_rfl) (by kernel_rfl) (by kernel_rfl) (sgS (blk_cell (j := 0) x41 (by kernel_rfl)) nb29) (sgS (blk_cell (j := 1) x41 (by kernel_rfl)) nb29) (sgS (blk_cell (j := 2) x41 (by kernel_rfl)) nb29) (sgS (blk_cell (j := 3) x41 (by kernel_rfl)) nb29)) (by kernel_rfl) rfl rfl ?_
  refine W.sq (v := .pointer (some ⟨g21, 0 + k * 4, none⟩)) rfl (r_idx (n := (0 + n2)) (c := cap11) (k := k) (size := 4) rfl (by kernel_rfl) rfl (by kernel_rfl) (by kernel_rfl) (by omega)) (by kernel_rfl) rfl rfl ?_
  refine W.sst (base := w.heap.size) (e := 59) (size := 4) (n := (0 + n2)) (c := cap11) (j := 0 + k * 4) (u := .agg #[.int .i64 x.id, .int .i64 x.pipe, .int .i64 x.node, .bool b]) (news := [.int .i64 x.id, .int .i64 x.pipe, .int .i64 x.node, .bool b]) s46 rfl (by kernel_rfl) rfl rfl (by kernel_rfl) (by kernel_rfl) ho43 (by kernel_rfl) (by kernel_rfl) (by kernel_rfl) (by simp only [List.length_cons, List.length_nil]; omega) (.inl rfl) (fun w47 ho48 g49 s50 => ?_)
  have ho48 := own_setV hx ⟨x.id, x.pipe, x.node, b⟩ ho48
  refine W.sch_endU (fun U51 => [.slice A2 n2 c2, .int .i64 ((k : Nat) : Int), .bool b, undef, undef, undef, .slice none 0 0, .slice (some ⟨g21, 0, none⟩) (0 + n2) cap11, .pointer (some ⟨b22, 0, none⟩), (U18 9), (U18 10), (U18 11), (U36 12), (U36 13), (U36 14), (U36 15), (U44 16), (U44 17), U51 18, U51 19, U51 20, U51 21, undef]) (by kernel_rfl) (fun U51 => ?_)
  have x41 := SG.blk s50 x41 nb29
  have c52 := (SG.belowR c45 s50 (fun kq e => (World.ownsRow.lt ho43 kq e).1))
  refine h5 _ _ ?_
  refine wp_seq_k (fun K6 h6 => ?_)
  refine W.region_quiet [(0, false), (1, false)] (by kernel_rfl) ?_
  refine W.sq (v := .slice (some ⟨g21, 0, none⟩) (0 + n2) cap11) rfl (r_move rfl (by kernel_rfl)) (by kernel_rfl) rfl rfl ?_
  refine W.sq (v := .slice (some ⟨g21, 0, none⟩) (0 + n2) cap11) rfl (r_assign rfl (by kernel_rfl)) (by kernel_rfl) rfl rfl ?_
  refine W.sch_endU (fun U53 => [.slice A2 n2 c2, .int .i64 ((k : Nat) : Int), .bool b, undef, undef, undef, .slice (some ⟨g21, 0, none⟩) (0 + n2) cap11, .slice (some ⟨g21, 0, none⟩) (0 + n2) cap11, .pointer (some ⟨b22, 0, none⟩), (U18 9), (U18 10), (U18 11), (U36 12), (U36 13), (U36 14), (U36 15), (U44 16), (U44 17), (U51 18), (U51 19), (U51 20), (U51 21), U53 22]) (by kernel_rfl) (fun U53 => ?_)
  refine h6 _ _ ?_
  refine wp_ret ?_
  try simp only [Exit.then]
  refine ret1 (v := .slice (some ⟨g21, 0, none⟩) (0 + n2) cap11) rfl (by kernel_rfl) ?_
  exact ⟨_, _, _, rfl, ho48, c52⟩

set_option maxRecDepth 100000 in
set_option maxHeartbeats 1000000 in
theorem TurnValve_spec (m : Int) (A : Option Addr) (n c : Nat) (ps : List Pp) (A2 : Option Addr) (n2 c2 : Nat) (vs : List Vv) (a : Int) (b : Bool) (w : World) (ha : Rd w 4 A n (pipesV ps)) (hb : Rd w 4 A2 n2 (valvesV vs)) (hn : n ≤ 1048576) (hn2 : n2 ≤ 1048576) (hfm : Fm A n c) (hfm2 : Fm A2 n2 c2) :
    Calls Try.prog 35 #[.agg #[.int .i64 m, .slice A n c], .slice A2 n2 c2, .int .i64 a, .bool b] w fun e w' => ∃ A' d, e = .returned (.tuple #[.slice A' (TurnValve_v0 m ps vs a b).length d, .bool (TurnValve_v1 m ps vs a b)]) ∧ w'.ownsRow w.heap.size 59 4 (.slice A' (TurnValve_v0 m ps vs a b).length d) (TurnValve_v0 m ps vs a b).length (valvesV (TurnValve_v0 m ps vs a b)) ∧ Below w.heap.size w w' := by
  have hl := rd_pipes_len ha
  have hl2 := rd_valves_len hb
  go_enter Try.func35, Try.ntmps35
  refine wp_seq_k (fun K1 h1 => ?_)
  refine W.region_plain (row := none) [(0, true), (1, false), (2, false)] (by kernel_rfl) ?_
  have s1 := SG.self w none
  refine W.sn (fun b => .pointer (some ⟨b, 0, none⟩)) #[.int .i64 m, .slice A n c] 31 s1 rfl (by kernel_rfl) rfl (fun _ => by kernel_rfl) (fun b2 w3 hb4 k5 x6 s7 => ?_)
  have lo8 : w.heap.size ≤ b2 := by have := ((SG.belowR (Below.refl _ _) s1 (fun kq e => by cases e))).size; omega
  refine W.sq (v := .slice none 0 0) rfl (r_assign rfl (by kernel_rfl)) (by kernel_rfl) rfl rfl ?_
  refine W.sq (v := .bool false) rfl (r_assign rfl (by kernel_rfl)) (by kernel_rfl) rfl rfl ?_
  refine W.sch_end (l' := [.agg #[.int .i64 m, .slice A n c], .slice A2 n2 c2, .int .i64 a, .bool b, .pointer (some ⟨b2, 0, none⟩), undef, undef, undef, .slice none 0 0, .bool false, undef, undef, undef, undef, undef, undef, undef, undef, undef, undef, undef, undef, undef, undef, undef, undef, undef, undef, undef, undef, undef, undef, undef, undef, undef, undef]) (by kernel_rfl) ?_
  have c9 := (SG.belowR (Below.refl _ _) s7 (fun kq e => by cases e))
  refine h1 _ _ ?_
  refine wp_seq_k (fun K2 h2 => ?_)
  refine W.region_plain (row := none) [(0, false), (1, false), (2, true), (3, false)] (by kernel_rfl) ?_
  have s10 := SG.self w3 none
  refine W.sq (v := .slice A2 n2 c2) rfl (r_move rfl (by kernel_rfl)) (by kernel_rfl) rfl rfl ?_
  refine W.sq (v := .int .i64 a) rfl (r_move rfl (by kernel_rfl)) (by kernel_rfl) rfl rfl ?_
  refine W.sc (vs := [.slice A2 n2 c2, .int .i64 a]) rfl rfl (by kernel_rfl) (by kernel_rfl) (by kernel_rfl) rfl (l4Find_any A2 n2 c2 vs a _ (Rd.kept hb (SG.belowR c9 s10 (fun kq e => by cases e))) (by omega)) ?_
  rintro e w12 ⟨rfl, b11⟩
  have s13 := SG.of_below s10 b11
  refine ⟨_, rfl, s13, ?_⟩
  refine W.sq (v := .int .i64 (idxV (idQ a) vs)) rfl (r_assign rfl (by kernel_rfl)) (by kernel_rfl) rfl rfl ?_
  refine W.sch_endU (fun U14 => [.agg #[.int .i64 m, .slice A n c], .slice A2 n2 c2, .int .i64 a, .bool b, .pointer (some ⟨b2, 0, none⟩), undef, undef, undef, .slice none 0 0, .bool false, .int .i64 (idxV (idQ a) vs), U14 11, U14 12, U14 13, undef, undef, undef, undef, undef, undef, undef, undef, undef, undef, undef, undef, undef, undef, undef, undef, undef, undef, undef, undef, undef, undef]) (by kernel_rfl) (fun U14 => ?_)
  have x6 := SG.blk s13 x6 (by simp)
  have c15 := (SG.belowR c9 s13 (fun kq e => by cases e))
  refine h2 _ _ ?_
  refine wp_seq_k (fun K3 h3 => ?_)
  refine wp_seq_k (fun K4 h4 => ?_)
  refine W.region_plain (row := none) [(0, false), (1, false), (2, true), (3, false), (4, false), (5, false), (6, false), (7, false), (8, false), (9, false), (10, false), (11, false), (12, false), (13, false), (14, false), (15, false), (16, false)] (by kernel_rfl) ?_
  have s16 := SG.self w12 none
  refine W.sq (v := .agg #[.int .i64 m, .slice A n c]) rfl (r_load2 rfl (by kernel_rfl) (by kernel_rfl) (by kernel_rfl) (sgS (blk_cell (j := 0) x6 (by kernel_rfl)) (by simp)) (sgS (blk_cell (j := 1) x6 (by kernel_rfl)) (by simp))) (by kernel_rfl) rfl rfl ?_
  refine W.sq (v := .slice A2 n2 c2) rfl (r_move rfl (by kernel_rfl)) (by kernel_rfl) rfl rfl ?_
  refine W.sc (vs := [.agg #[.int .i64 m, .slice A n c], .slice A2 n2 c2]) rfl rfl (by kernel_rfl) (by kernel_rfl) (by kernel_rfl) rfl (l4Good_any m A n c ps A2 n2 c2 vs _ (Rd.kept ha (SG.belowR c15 s16 (fun kq e => by cases e))) (Rd.kept hb (SG.belowR c15 s16 (fun kq e => by cases e))) (by omega) (by omega)) ?_
  rintro e w18 ⟨rfl, b17⟩
  have s19 := SG.of_below s16 b17
  refine ⟨_, rfl, s19, ?_⟩
  rcases Bool.eq_false_or_eq_true (goodV m ps vs) with q20 | q20
  · rw [q20]
    have hv9 := goodV_of q20
    have hg := hv9.net
    have hgl := hg.lo
    have hgh := hg.hi
    have hp := hg.pipesIn
    have hlen10 := hg.len
    have hu := hv9.uniq
    have hvl := hv9.len
    refine W.sq (v := .bool false) rfl (r_not (b := true) rfl (by kernel_rfl) rfl) (by kernel_rfl) rfl rfl ?_
    refine W.sq (v := .bool false) rfl (r_move rfl (by kernel_rfl)) (by kernel_rfl) rfl rfl ?_
    refine W.sq (v := .int .i64 (idxV (idQ a) vs)) rfl (r_move rfl (by kernel_rfl)) (by kernel_rfl) rfl rfl ?_
    by_cases q21 : ((idxV (idQ a) vs) : Int) < (0 : Int)
    · refine W.sq (v := .bool true) rfl (r_lss (m := (idxV (idQ a) vs)) (n := 0) rfl (by kernel_rfl) (by kernel_rfl) (decide_eq_true q21)) (by kernel_rfl) rfl rfl ?_
      refine W.sq (v := .bool true) rfl (r_pick (b := false) rfl (by kernel_rfl) (by kernel_rfl)) (by kernel_rfl) rfl rfl ?_
      refine W.sq (v := .bool true) rfl (r_move rfl (by kernel_rfl)) (by kernel_rfl) rfl rfl ?_
      refine W.sk s19 rfl (by kernel_rfl) rfl rfl ?_
      refine W.sk s19 rfl (by kernel_rfl) rfl rfl ?_
      refine W.sk s19 rfl (by kernel_rfl) rfl rfl ?_
      refine W.sk s19 rfl (by kernel_rfl) rfl rfl ?_
      refine W.sk s19 rfl (by kernel_rfl) rfl rfl ?_
      refine W.sk s19 rfl (by kernel_rfl) rfl rfl ?_
      refine W.sk s19 rfl (by kernel_rfl) rfl rfl ?_
      refine W.sq (v := .bool true) rfl (r_pick (b := true) rfl (by kernel_rfl) (by kernel_rfl)) (by kernel_rfl) rfl rfl ?_
      refine W.sch_endU (fun U22 => [.agg #[.int .i64 m, .slice A n c], .slice A2 n2 c2, .int .i64 a, .bool b, .pointer (some ⟨b2, 0, none⟩), undef, undef, undef, .slice none 0 0, .bool false, .int .i64 (idxV (idQ a) vs), (U14 11), (U14 12), (U14 13), U22 14, U22 15, U22 16, U22 17, U22 18, U22 19, U22 20, U22 21, U22 22, undef, undef, undef, undef, undef, undef, undef, .bool true, undef, undef, undef, undef, undef]) (by kernel_rfl) (fun U22 => ?_)
      have x6 := SG.blk s19 x6 (by simp)
      have c23 := (SG.belowR c15 s19 (fun kq e => by cases e))
      refine h4 _ _ ?_
      refine wp_cond_true (by kernel_rfl) ?_
      refine wp_seq_k (fun K5 h5 => ?_)
      refine W.region_plain (row := none) [(0, true), (1, false), (2, false)] (by kernel_rfl) ?_
      have s24 := SG.self w18 none
      refine W.sn (fun b => .slice (some ⟨b, 0, none⟩) 0 0) #[] 59 s24 rfl (by kernel_rfl) rfl (fun _ => by kernel_rfl) (fun b25 w26 hb27 k28 x29 s30 => ?_)
      have lo31 : w.heap.size ≤ b25 := by have := ((SG.belowR c23 s24 (fun kq e => by cases e))).size; omega
      have ne32 : b2 ≠ b25 := by have := blk_lt x6; have := World.grownBy.size s24; omega
      refine W.sq (v := .slice (some ⟨b25, 0, none⟩) 0 0) rfl (r_assign rfl (by kernel_rfl)) (by kernel_rfl) rfl rfl ?_
      refine W.sq (v := .bool false) rfl (r_assign rfl (by kernel_rfl)) (by kernel_rfl) rfl rfl ?_
      refine W.sch_endU (fun U33 => [.agg #[.int .i64 m, .slice A n c], .slice A2 n2 c2, .int .i64 a, .bool b, .pointer (some ⟨b2, 0, none⟩), undef, undef, undef, .slice (some ⟨b25, 0, none⟩) 0 0, .bool false, .int .i64 (idxV (idQ a) vs), (U14 11), (U14 12), (U14 13), (U22 14), (U22 15), (U22 16), (U22 17), (U22 18), (U22 19), (U22 20), (U22 21), (U22 22), undef, undef, undef, undef, undef, undef, undef, .bool true, U33 31, undef, undef, undef, undef]) (by kernel_rfl) (fun U33 => ?_)
      have x6 := SG.blk s30 x6 (by simp)
      have c34 := (SG.belowR c23 s30 (fun kq e => by cases e))
      refine h5 _ _ ?_
      refine wp_ret ?_
      try simp only [Exit.then]
      refine ret2 (v := .slice (some ⟨b25, 0, none⟩) 0 0) (x := .bool false) rfl (by kernel_rfl) (by kernel_rfl) ?_
      have ok35 : TurnValve_v1 m ps vs a b = false := by unfold TurnValve_v1 turnOk; rw [decide_eq_false (by omega), Bool.false_and, Bool.and_false]
      have ho36 := own_empty (base := w.heap.size) (size := 4) x29 lo31
      replace ho36 : World.ownsRow _ _ _ _ _ _ (valvesV []) := ho36
      have nb37 : Nb b2 (.slice (some ⟨b25, 0, none⟩) 0 0) := nb_new (by have := ne32; omega)
      exact fin_valves (zs := []) ho36 (by unfold TurnValve_v0; rw [if_neg (by rw [ok35]; simp)]) ok35.symm c34
    · refine W.sq (v := .bool false) rfl (r_lss (m := (idxV (idQ a) vs)) (n := 0) rfl (by kernel_rfl) (by kernel_rfl) (decide_eq_false q21)) (by kernel_rfl) rfl rfl ?_
      refine W.sq (v := .bool false) rfl (r_pick (b := false) rfl (by kernel_rfl) (by kernel_rfl)) (by kernel_rfl) rfl rfl ?_
      refine W.sq (v := .bool false) rfl (r_move rfl (by kernel_rfl)) (by kernel_rfl) rfl rfl ?_
      refine W.sq (v := .slice A2 n2 c2) rfl (r_move rfl (by kernel_rfl)) (by kernel_rfl) rfl rfl ?_
      refine W.sq (v := .int .i64 (idxV (idQ a) vs)) rfl (r_move rfl (by kernel_rfl)) (by kernel_rfl) rfl rfl ?_
      obtain ⟨k9, x9, e9, hx9, hq9⟩ := idx_some (vs := vs) (q := idQ a) (by omega)
      have hk9 := (List.getElem?_eq_some_iff.1 hx9).1
      obtain ⟨b38, o39, hA40, hb41, hc42, hc43, hc44, hc45⟩ := Rd.elValve hb hx9
      refine W.sq (v := .pointer (some ⟨b38, o39 + k9 * 4, none⟩)) rfl (r_idx (n := n2) (c := c2) (k := k9) rfl (by kernel_rfl) hA40 (evk (z := (idxV (idQ a) vs)) (by kernel_rfl) e9) (by kernel_rfl) (by have := hl2; omega)) (by kernel_rfl) rfl rfl ?_
      refine W.sq (v := .pointer (some ⟨b38, o39 + k9 * 4 + 3, none⟩)) rfl (r_field (k := 3) rfl (by kernel_rfl) (by kernel_rfl)) (by kernel_rfl) rfl rfl ?_
      refine W.sq (v := .bool x9.shut) rfl (r_load rfl (by kernel_rfl) (by kernel_rfl) (sgS (later c15 hc45) (by simp))) (by kernel_rfl) rfl rfl ?_
      refine W.sq (v := .bool b) rfl (r_move rfl (by kernel_rfl)) (by kernel_rfl) rfl rfl ?_
      by_cases q46 : x9.shut = b
      · refine W.sq (v := .bool true) rfl (r_eqlB (m := x9.shut) (n := b) rfl (by kernel_rfl) (by kernel_rfl) (by kernel_rfl) (beq_iff_eq.2 q46)) (by kernel_rfl) rfl rfl ?_
        refine W.sq (v := .bool true) rfl (r_pick (b := false) rfl (by kernel_rfl) (by kernel_rfl)) (by kernel_rfl) rfl rfl ?_
        refine W.sch_endU (fun U47 => [.agg #[.int .i64 m, .slice A n c], .slice A2 n2 c2, .int .i64 a, .bool b, .pointer (some ⟨b2, 0, none⟩), undef, undef, undef, .slice none 0 0, .bool false, .int .i64 (idxV (idQ a) vs), (U14 11), (U14 12), (U14 13), U47 14, U47 15, U47 16, U47 17, U47 18, U47 19, U47 20, U47 21, U47 22, U47 23, U47 24, U47 25, U47 26, U47 27, U47 28, U47 29, .bool true, undef, undef, undef, undef, undef]) (by kernel_rfl) (fun U47 => ?_)
        have x6 := SG.blk s19 x6 (by simp)
        have c48 := (SG.belowR c15 s19 (fun kq e => by cases e))
        refine h4 _ _ ?_
        refine wp_cond_true (by kernel_rfl) ?_
        refine wp_seq_k (fun K6 h6 => ?_)
        refine W.region_plain (row := none) [(0, true), (1, false), (2, false)] (by kernel_rfl) ?_
        have s49 := SG.self w18 none
        refine W.sn (fun b => .slice (some ⟨b, 0, none⟩) 0 0) #[] 59 s49 rfl (by kernel_rfl) rfl (fun _ => by kernel_rfl) (fun b50 w51 hb52 k53 x54 s55 => ?_)
        have lo56 : w.heap.size ≤ b50 := by have := ((SG.belowR c48 s49 (fun kq e => by cases e))).size; omega
        have ne57 : b2 ≠ b50 := by have := blk_lt x6; have := World.grownBy.size s49; omega
        refine W.sq (v := .slice (some ⟨b50, 0, none⟩) 0 0) rfl (r_assign rfl (by kernel_rfl)) (by kernel_rfl) rfl rfl ?_
        refine W.sq (v := .bool false) rfl (r_assign rfl (by kernel_rfl)) (by kernel_rfl) rfl rfl ?_
        refine W.sch_endU (fun U58 => [.agg #[.int .i64 m, .slice A n c], .slice A2 n2 c2, .int .i64 a, .bool b, .pointer (some ⟨b2, 0, none⟩), undef, undef, undef, .slice (some ⟨b50, 0, none⟩) 0 0, .bool false, .int .i64 (idxV (idQ a) vs), (U14 11), (U14 12), (U14 13), (U47 14), (U47 15), (U47 16), (U47 17), (U47 18), (U47 19), (U47 20), (U47 21), (U47 22), (U47 23), (U47 24), (U47 25), (U47 26), (U47 27), (U47 28), (U47 29), .bool true, U58 31, undef, undef, undef, undef]) (by kernel_rfl) (fun U58 => ?_)
        have x6 := SG.blk s55 x6 (by simp)
        have c59 := (SG.belowR c48 s55 (fun kq e => by cases e))
        refine h6 _ _ ?_
        refine wp_ret ?_
        try simp only [Exit.then]
        refine ret2 (v := .slice (some ⟨b50, 0, none⟩) 0 0) (x := .bool false) rfl (by kernel_rfl) (by kernel_rfl) ?_
        have ok60 : TurnValve_v1 m ps vs a b = false := by unfold TurnValve_v1; rw [turnOk_at e9 hx9, beq_iff_eq.2 q46, Bool.not_true, Bool.and_false]
        have ho61 := own_empty (base := w.heap.size) (size := 4) x54 lo56
        replace ho61 : World.ownsRow _ _ _ _ _ _ (valvesV []) := ho61
        have nb62 : Nb b2 (.slice (some ⟨b50, 0, none⟩) 0 0) := nb_new (by have := ne57; omega)
        exact fin_valves (zs := []) ho61 (by unfold TurnValve_v0; rw [if_neg (by rw [ok60]; simp)]) ok60.symm c59
      · refine W.sq (v := .bool false) rfl (r_eqlB (m := x9.shut) (n := b) rfl (by kernel_rfl) (by kernel_rfl) (by kernel_rfl) (beq_eq_false_iff_ne.2 q46)) (by kernel_rfl) rfl rfl ?_
        refine W.sq (v := .bool false) rfl (r_pick (b := false) rfl (by kernel_rfl) (by kernel_rfl)) (by kernel_rfl) rfl rfl ?_
        refine W.sch_endU (fun U63 => [.agg #[.int .i64 m, .slice A n c], .slice A2 n2 c2, .int .i64 a, .bool b, .pointer (some ⟨b2, 0, none⟩), undef, undef, undef, .slice none 0 0, .bool false, .int .i64 (idxV (idQ a) vs), (U14 11), (U14 12), (U14 13), U63 14, U63 15, U63 16, U63 17, U63 18, U63 19, U63 20, U63 21, U63 22, U63 23, U63 24, U63 25, U63 26, U63 27, U63 28, U63 29, .bool false, undef, undef, undef, undef, undef]) (by kernel_rfl) (fun U63 => ?_)
        have x6 := SG.blk s19 x6 (by simp)
        have c64 := (SG.belowR c15 s19 (fun kq e => by cases e))
        refine h4 _ _ ?_
        refine wp_cond_false (by kernel_rfl) ?_
        refine wp_skip ?_
        refine h3 _ _ ?_
        refine wp_seq_k (fun K7 h7 => ?_)
        refine W.region_plain (row := none) [(0, false), (1, false), (2, false), (3, true), (4, false), (5, false)] (by kernel_rfl) ?_
        have s65 := SG.self w18 none
        refine W.sq (v := .slice A2 n2 c2) rfl (r_move rfl (by kernel_rfl)) (by kernel_rfl) rfl rfl ?_
        refine W.sq (v := .int .i64 (idxV (idQ a) vs)) rfl (r_move rfl (by kernel_rfl)) (by kernel_rfl) rfl rfl ?_
        refine W.sq (v := .bool b) rfl (r_move rfl (by kernel_rfl)) (by kernel_rfl) rfl rfl ?_
        have z71 := ((SG.belowR c64 s65 (fun kq e => by cases e))).size
        refine W.sc (vs := [.slice A2 n2 c2, .int .i64 ((k9 : Nat) : Int), .bool b]) rfl rfl (Eq.trans (b := [.slice A2 n2 c2, .int .i64 (idxV (idQ a) vs), .bool b]) (by kernel_rfl) (by rw [e9])) (by kernel_rfl) (by kernel_rfl) rfl (l4Turned_any A2 n2 c2 vs k9 x9 b _ (Rd.kept hb (SG.belowR c64 s65 (fun kq e => by cases e))) (by omega) hfm2 hx9) ?_
        rintro e w74 ⟨A66, n67, c68, rfl, ho69, b73⟩
        have s75 := SG.of_below s65 b73
        refine ⟨_, rfl, s75, ?_⟩
        have ho70 := own_base (base' := w.heap.size) ho69 z71
        have nb76 : Nb b2 (.slice A66 n67 c68) := nb_lo ho69 (Nat.lt_of_lt_of_le (blk_lt x6) (World.grownBy.size s65))
        refine W.sq (v := .slice A66 n67 c68) rfl (r_assign rfl (by kernel_rfl)) (by kernel_rfl) rfl rfl ?_
        refine W.sq (v := .bool true) rfl (r_assign rfl (by kernel_rfl)) (by kernel_rfl) rfl rfl ?_
        refine W.sch_endU (fun U77 => [.agg #[.int .i64 m, .slice A n c], .slice A2 n2 c2, .int .i64 a, .bool b, .pointer (some ⟨b2, 0, none⟩), undef, undef, undef, .slice A66 n67 c68, .bool true, .int .i64 (idxV (idQ a) vs), (U14 11), (U14 12), (U14 13), (U63 14), (U63 15), (U63 16), (U63 17), (U63 18), (U63 19), (U63 20), (U63 21), (U63 22), (U63 23), (U63 24), (U63 25), (U63 26), (U63 27), (U63 28), (U63 29), .bool false, undef, U77 32, U77 33, U77 34, U77 35]) (by kernel_rfl) (fun U77 => ?_)
        have x6 := SG.blk s75 x6 (by simp)
        have c78 := (SG.belowR c64 s75 (fun kq e => by cases e))
        refine h7 _ _ ?_
        refine wp_ret ?_
        try simp only [Exit.then]
        refine ret2 (v := .slice A66 n67 c68) (x := .bool true) rfl (by kernel_rfl) (by kernel_rfl) ?_
        have ok79 : TurnValve_v1 m ps vs a b = true := by unfold TurnValve_v1; rw [q20, turnOk_at e9 hx9, beq_eq_false_iff_ne.2 q46]; rfl
        exact fin_valves ho70 (by unfold TurnValve_v0; rw [if_pos ok79, turned_at e9 hx9]) ok79.symm c78
  · rw [q20]
    refine W.sq (v := .bool true) rfl (r_not (b := false) rfl (by kernel_rfl) rfl) (by kernel_rfl) rfl rfl ?_
    refine W.sq (v := .bool true) rfl (r_move rfl (by kernel_rfl)) (by kernel_rfl) rfl rfl ?_
    refine W.sk s19 rfl (by kernel_rfl) rfl rfl ?_
    refine W.sk s19 rfl (by kernel_rfl) rfl rfl ?_
    refine W.sq (v := .bool true) rfl (r_pick (b := true) rfl (by kernel_rfl) (by kernel_rfl)) (by kernel_rfl) rfl rfl ?_
    refine W.sq (v := .bool true) rfl (r_move rfl (by kernel_rfl)) (by kernel_rfl) rfl rfl ?_
    refine W.sk s19 rfl (by kernel_rfl) rfl rfl ?_
    refine W.sk s19 rfl (by kernel_rfl) rfl rfl ?_
    refine W.sk s19 rfl (by kernel_rfl) rfl rfl ?_
    refine W.sk s19 rfl (by kernel_rfl) rfl rfl ?_
    refine W.sk s19 rfl (by kernel_rfl) rfl rfl ?_
    refine W.sk s19 rfl (by kernel_rfl) rfl rfl ?_
    refine W.sk s19 rfl (by kernel_rfl) rfl rfl ?_
    refine W.sq (v := .bool true) rfl (r_pick (b := true) rfl (by kernel_rfl) (by kernel_rfl)) (by kernel_rfl) rfl rfl ?_
    refine W.sch_endU (fun U80 => [.agg #[.int .i64 m, .slice A n c], .slice A2 n2 c2, .int .i64 a, .bool b, .pointer (some ⟨b2, 0, none⟩), undef, undef, undef, .slice none 0 0, .bool false, .int .i64 (idxV (idQ a) vs), (U14 11), (U14 12), (U14 13), U80 14, U80 15, U80 16, U80 17, U80 18, undef, undef, U80 21, U80 22, undef, undef, undef, undef, undef, undef, undef, .bool true, undef, undef, undef, undef, undef]) (by kernel_rfl) (fun U80 => ?_)
    have x6 := SG.blk s19 x6 (by simp)
    have c81 := (SG.belowR c15 s19 (fun kq e => by cases e))
    refine h4 _ _ ?_
    refine wp_cond_true (by kernel_rfl) ?_
    refine wp_seq_k (fun K8 h8 => ?_)
    refine W.region_plain (row := none) [(0, true), (1, false), (2, false)] (by kernel_rfl) ?_
    have s82 := SG.self w18 none
    refine W.sn (fun b => .slice (some ⟨b, 0, none⟩) 0 0) #[] 59 s82 rfl (by kernel_rfl) rfl (fun _ => by kernel_rfl) (fun b83 w84 hb85 k86 x87 s88 => ?_)
    have lo89 : w.heap.size ≤ b83 := by have := ((SG.belowR c81 s82 (fun kq e => by cases e))).size; omega
    have ne90 : b2 ≠ b83 := by have := blk_lt x6; have := World.grownBy.size s82; omega
    refine W.sq (v := .slice (some ⟨b83, 0, none⟩) 0 0) rfl (r_assign rfl (by kernel_rfl)) (by kernel_rfl) rfl rfl ?_
    refine W.sq (v := .bool false) rfl (r_assign rfl (by kernel_rfl)) (by kernel_rfl) rfl rfl ?_
    refine W.sch_endU (fun U91 => [.agg #[.int .i64 m, .slice A n c], .slice A2 n2 c2, .int .i64 a, .bool b, .pointer (some ⟨b2, 0, none⟩), undef, undef, undef, .slice (some ⟨b83, 0, none⟩) 0 0, .bool false, .int .i64 (idxV (idQ a) vs), (U14 11), (U14 12), (U14 13), (U80 14), (U80 15), (U80 16), (U80 17), (U80 18), undef, undef, (U80 21), (U80 22), undef, undef, undef, undef, undef, undef, undef, .bool true, U91 31, undef, undef, undef, undef]) (by kernel_rfl) (fun U91 => ?_)
    have x6 := SG.blk s88 x6 (by simp)
    have c92 := (SG.belowR c81 s88 (fun kq e => by cases e))
    refine h8 _ _ ?_
    refine wp_ret ?_
    try simp only [Exit.then]
    refine ret2 (v := .slice (some ⟨b83, 0, none⟩) 0 0) (x := .bool false) rfl (by kernel_rfl) (by kernel_rfl) ?_
    have ok93 : TurnValve_v1 m ps vs a b = false := by unfold TurnValve_v1; rw [q20]; rfl
    have ho94 := own_empty (base := w.heap.size) (size := 4) x87 lo89
    replace ho94 : World.ownsRow _ _ _ _ _ _ (valvesV []) := ho94
    have nb95 : Nb b2 (.slice (some ⟨b83, 0, none⟩) 0 0) := nb_new (by have := ne90; omega)
    exact fin_valves (zs := []) ho94 (by unfold TurnValve_v0; rw [if_neg (by rw [ok93]; simp)]) ok93.symm c92

end Go.Proofs.Ythdmbndndfiidaa
