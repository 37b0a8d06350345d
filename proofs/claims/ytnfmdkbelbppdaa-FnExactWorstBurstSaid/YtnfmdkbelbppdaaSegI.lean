/- What is connected with an element: the program's marks. -/
import Derived.Test.YtnfmdkbelbppdaaSeg
import Derived.Test.YtnfmdkbelbppdaaSch7
import Derived.Test.YtnfmdkbelbppdaaVal
namespace Go.Proofs.Ytnfmdkbelbppdaa
open Go.RowKit
set_option linter.unusedVariables false
set_option linter.unusedSimpArgs false

/-- A pipe's end is open: no valve (no shut one, if only those count) is there. -/
def openQ (vs : List Vv) (only : Bool) (p : Pp) (v : Int) : Bool := !blocked vs p.id v only
theorem two_of {a b y : Int} {k : Nat} (h : [a, b][k]? = some y) : (k = 0 ∧ y = a) ∨ (k = 1 ∧ y = b) := by
  rcases k with _ | _ | k
  · simp at h; exact .inl ⟨rfl, h.symm⟩
  · simp at h; exact .inr ⟨rfl, h.symm⟩
  · simp at h
theorem two_next {q : Pp → Int → Bool} {S : Int → Prop} {i k : Nat} {x : Pp} {y : Int} (hy : (k = 0 ∧ y = x.fr) ∨ (k = 1 ∧ y = x.to)) (h1 : 1 ≤ k → okP q S i x x.fr) (h : okP q S i x y) : (1 ≤ k + 1 → okP q S i x x.fr) ∧ (2 ≤ k + 1 → okP q S i x x.to) := by
  rcases hy with ⟨rfl, rfl⟩ | ⟨rfl, rfl⟩
  · exact ⟨fun _ => h, fun h' => absurd h' (by omega)⟩
  · exact ⟨fun _ => h1 (by omega), fun _ => h⟩
/-- No two valves are at one place. -/
def uniqV (vs : List Vv) : Prop := ∀ u v, u ∈ vs → v ∈ vs → u.pipe = v.pipe → u.node = v.node → u = v
abbrev atQ (p : Pp) (v : Int) : Vv → Bool := fun u => decide (u.pipe = p.id) && decide (u.node = v)
theorem idx_neg {vs : List Vv} {p : Pp} {v : Int} (only : Bool) (h : idxV (atQ p v) vs < 0) : openQ vs only p v = true := by
  have h2 : vs.any (atQ p v) = false := by rw [← idxV_pos]; exact decide_eq_false (by omega)
  unfold openQ blocked
  rw [Bool.not_eq_true', List.any_eq_false]
  intro u hu
  have := List.any_eq_false.1 h2 u hu
  simp only [Bool.and_eq_true, not_and] at this ⊢
  exact fun h => absurd h.2 (fun h' => this h.1 h')
theorem idx_some {vs : List Vv} {q : Vv → Bool} (h : ¬ idxV q vs < 0) : ∃ (k : Nat) (x : Vv), idxV q vs = (k : Int) ∧ vs[k]? = some x ∧ q x = true := by
  rcases idxV_cases q vs with ⟨h1, _⟩ | ⟨k, x, h1, h2, h3, _⟩
  · omega
  · exact ⟨k, x, h1, h2, h3⟩
theorem idx_yes {vs : List Vv} {p : Pp} {v : Int} (h : ¬ idxV (atQ p v) vs < 0) : openQ vs false p v = false := by
  obtain ⟨k, x, _, hx, hq⟩ := idx_some h
  unfold openQ blocked
  rw [Bool.not_eq_false', List.any_eq_true]
  exact ⟨x, List.mem_of_getElem? hx, by simpa using hq⟩
theorem idx_shut {vs : List Vv} {p : Pp} {v : Int} (hu : uniqV vs) {k : Nat} {x : Vv} (hx : vs[k]? = some x) (hq : atQ p v x = true) : openQ vs true p v = !x.shut := by
  unfold openQ blocked
  refine congrArg (!·) ?_
  have hq' : x.pipe = p.id ∧ x.node = v := by simpa using hq
  rw [Bool.eq_iff_iff, List.any_eq_true]
  constructor
  · rintro ⟨u, hm, h⟩
    have h' : (u.pipe = p.id ∧ u.node = v) ∧ u.shut = true := by simpa using h
    have e := hu u x hm (List.mem_of_getElem? hx) (by omega) (by omega)
    rw [← e]; exact h'.2
  · intro h; exact ⟨x, List.mem_of_getElem? hx, by simp [hq', h]⟩

set_option maxRecDepth 100000 in
set_option maxHeartbeats 1000000 in
theorem element_any (i : Int) (w : World) (h0 : -1 ≤ i ∧ i ≤ 1000) :
    Calls Try.prog 102 #[.int .i64 i] w fun e w' => e = .returned (.int .i64 (9 + i)) ∧ w = w' := by
  go_enter Try.func102, Try.ntmps102
  refine wp_seq_k (fun K1 h1 => ?_)
  refine W.region_quiet [(0, false)] (by kernel_rfl) ?_
  refine W.as (v := .int .i64 0) (h := ?_)
  refine W.endF 5 [(0, .int .i64 i), (2, .int .i64 0)] (fun U1 => ?_)
  refine h1 _ _ ?_
  refine wp_seq_k (fun K2 h2 => ?_)
  refine W.region_quiet [(0, false), (1, false), (2, false)] (by kernel_rfl) ?_
  refine W.mv (v := .int .i64 i) (h := ?_)
  refine W.q (v := .int .i64 (9 + i)) (hr := (r_add (m := 9) (n := i) (z := 9 + i) rfl (by kernel_rfl) (by kernel_rfl) (rfl) (by omega))) (h := ?_)
  refine W.as (v := .int .i64 (9 + i)) (h := ?_)
  refine W.endF 5 [(0, .int .i64 i), (2, .int .i64 (9 + i))] (fun U2 => ?_)
  refine h2 _ _ ?_
  refine wp_ret ?_
  try simp only [Exit.then]
  refine ret1 (v := .int .i64 (9 + i)) rfl (by kernel_rfl) ?_
  exact ⟨rfl, rfl⟩

theorem elementN_any (i : Nat) (w : World) (h0 : i ≤ 1000) : Calls Try.prog 102 #[.int .i64 ((i : Nat) : Int)] w fun e w' => e = .returned (.int .i64 ((9 + i : Nat) : Int)) ∧ w = w' := by
  refine (element_any (i : Int) w (by omega)).mono ?_
  rintro e w' ⟨rfl, rfl⟩
  exact ⟨by rw [show ((9 + i : Nat) : Int) = 9 + (i : Int) by omega], rfl⟩

set_option maxRecDepth 100000 in
set_option maxHeartbeats 1000000 in
theorem segF_any (p : Pp) (v : Int) (B : Nat) (A2 : Option Addr) (n2 c2 : Nat) (vs : List Vv) (w : World) (hB : w.heap[B]? = some (.cells #[.slice A2 n2 c2] 34 (0, 0))) (hb : Rd w 4 A2 n2 (valvesV vs)) (hn2 : n2 ≤ 1048576) :
    Calls Try.prog 137 #[.agg #[.int .i64 p.id, .int .i64 p.fr, .int .i64 p.to, .int .i64 p.sz], .int .i64 v, .pointer (some ⟨B, 0, none⟩)] w fun e w' => e = .returned (.bool (openQ vs false p v)) ∧ Below w.heap.size w w' := by
  have hl2 := rd_valves_len hb
  go_enter Try.func137, Try.ntmps137
  refine wp_seq_k (fun K1 h1 => ?_)
  refine W.region_plain (row := none) [(0, true), (1, false)] (by kernel_rfl) ?_
  have s1 := SG.self w none
  refine W.sn (fun b => .pointer (some ⟨b, 0, none⟩)) #[.int .i64 p.id, .int .i64 p.fr, .int .i64 p.to, .int .i64 p.sz] 72 s1 rfl (by kernel_rfl) rfl (fun _ => by kernel_rfl) (fun b2 w3 hb4 k5 x6 s7 => ?_)
  have lo8 : w.heap.size ≤ b2 := by have := ((SG.belowR (Below.refl _ _) s1 (fun kq e => by cases e))).size; omega
  have ne9 : B ≠ b2 := by have := blk_lt hB; have := World.grownBy.size s1; omega
  refine W.as (v := .bool false) (h := ?_)
  refine W.endF 11 [(0, .agg #[.int .i64 p.id, .int .i64 p.fr, .int .i64 p.to, .int .i64 p.sz]), (1, .int .i64 v), (2, .pointer (some ⟨B, 0, none⟩)), (3, .pointer (some ⟨b2, 0, none⟩)), (5, .bool false)] (fun U10 => ?_)
  have hB := SG.blk s7 hB (by simp)
  have c11 := (SG.belowR (Below.refl _ _) s7 (fun kq e => by cases e))
  refine h1 _ _ ?_
  refine wp_seq_k (fun K2 h2 => ?_)
  refine W.region_plain (row := none) [(0, false), (1, false), (2, false), (3, true), (4, false), (5, false)] (by kernel_rfl) ?_
  have s12 := SG.self w3 none
  refine W.ld (v := .slice A2 n2 c2) (hc := (sgS (blk_cell (j := 0) hB (by kernel_rfl)) (by simp))) (h := ?_)
  refine W.q (v := .agg #[.int .i64 p.id, .int .i64 p.fr, .int .i64 p.to, .int .i64 p.sz]) (hr := (r_load4 rfl (by kernel_rfl) (by kernel_rfl) (by kernel_rfl) (sgS (blk_cell (j := 0) x6 (by kernel_rfl)) (by simp)) (sgS (blk_cell (j := 1) x6 (by kernel_rfl)) (by simp)) (sgS (blk_cell (j := 2) x6 (by kernel_rfl)) (by simp)) (sgS (blk_cell (j := 3) x6 (by kernel_rfl)) (by simp)))) (h := ?_)
  refine W.mv (v := .int .i64 v) (h := ?_)
  refine W.sc (vs := [.slice A2 n2 c2, .agg #[.int .i64 p.id, .int .i64 p.fr, .int .i64 p.to, .int .i64 p.sz], .int .i64 v]) rfl rfl (by kernel_rfl) (by kernel_rfl) (by kernel_rfl) rfl (valveAt_any A2 n2 c2 vs p v _ (Rd.kept hb (SG.belowR c11 s12 (fun kq e => by cases e))) (by omega)) ?_
  rintro e w14 ⟨rfl, b13⟩
  have s15 := SG.of_below s12 b13
  refine ⟨_, rfl, s15, ?_⟩
  by_cases q16 : (idxV (atQ p v) vs : Int) < (0 : Int)
  · refine W.q (v := .bool true) (hr := (r_lss (m := idxV (atQ p v) vs) (n := 0) rfl (by kernel_rfl) (by kernel_rfl) (decide_eq_true q16))) (h := ?_)
    refine W.as (v := .bool true) (h := ?_)
    refine W.endF 11 [(0, .agg #[.int .i64 p.id, .int .i64 p.fr, .int .i64 p.to, .int .i64 p.sz]), (1, .int .i64 v), (2, .pointer (some ⟨B, 0, none⟩)), (3, .pointer (some ⟨b2, 0, none⟩)), (5, .bool true)] (fun U17 => ?_)
    have hB := SG.blk s15 hB (by simp)
    have x6 := SG.blk s15 x6 (by simp)
    have c18 := (SG.belowR c11 s15 (fun kq e => by cases e))
    refine h2 _ _ ?_
    refine wp_ret ?_
    try simp only [Exit.then]
    refine ret1 (v := .bool true) rfl (by kernel_rfl) ?_
    exact ⟨ret_bool (idx_neg false q16).symm, c18⟩
  · refine W.q (v := .bool false) (hr := (r_lss (m := idxV (atQ p v) vs) (n := 0) rfl (by kernel_rfl) (by kernel_rfl) (decide_eq_false q16))) (h := ?_)
    refine W.as (v := .bool false) (h := ?_)
    refine W.endF 11 [(0, .agg #[.int .i64 p.id, .int .i64 p.fr, .int .i64 p.to, .int .i64 p.sz]), (1, .int .i64 v), (2, .pointer (some ⟨B, 0, none⟩)), (3, .pointer (some ⟨b2, 0, none⟩)), (5, .bool false)] (fun U19 => ?_)
    have hB := SG.blk s15 hB (by simp)
    have x6 := SG.blk s15 x6 (by simp)
    have c20 := (SG.belowR c11 s15 (fun kq e => by cases e))
    refine h2 _ _ ?_
    refine wp_ret ?_
    try simp only [Exit.then]
    refine ret1 (v := .bool false) rfl (by kernel_rfl) ?_
    exact ⟨ret_bool (idx_yes q16).symm, c20⟩

set_option maxRecDepth 100000 in
set_option maxHeartbeats 1000000 in
theorem watF_any (p : Pp) (v : Int) (B : Nat) (A2 : Option Addr) (n2 c2 : Nat) (vs : List Vv) (w : World) (hB : w.heap[B]? = some (.cells #[.slice A2 n2 c2] 34 (0, 0))) (hb : Rd w 4 A2 n2 (valvesV vs)) (hn2 : n2 ≤ 1048576) (hu : uniqV vs) :
    Calls Try.prog 129 #[.agg #[.int .i64 p.id, .int .i64 p.fr, .int .i64 p.to, .int .i64 p.sz], .int .i64 v, .pointer (some ⟨B, 0, none⟩)] w fun e w' => e = .returned (.bool (openQ vs true p v)) ∧ Below w.heap.size w w' := by
  have hl2 := rd_valves_len hb
  go_enter Try.func129, Try.ntmps129
  refine wp_seq_k (fun K1 h1 => ?_)
  refine W.region_plain (row := none) [(0, true), (1, false)] (by kernel_rfl) ?_
  have s1 := SG.self w none
  refine W.sn (fun b => .pointer (some ⟨b, 0, none⟩)) #[.int .i64 p.id, .int .i64 p.fr, .int .i64 p.to, .int .i64 p.sz] 72 s1 rfl (by kernel_rfl) rfl (fun _ => by kernel_rfl) (fun b2 w3 hb4 k5 x6 s7 => ?_)
  have lo8 : w.heap.size ≤ b2 := by have := ((SG.belowR (Below.refl _ _) s1 (fun kq e => by cases e))).size; omega
  have ne9 : B ≠ b2 := by have := blk_lt hB; have := World.grownBy.size s1; omega
  refine W.as (v := .bool false) (h := ?_)
  refine W.endF 21 [(0, .agg #[.int .i64 p.id, .int .i64 p.fr, .int .i64 p.to, .int .i64 p.sz]), (1, .int .i64 v), (2, .pointer (some ⟨B, 0, none⟩)), (3, .pointer (some ⟨b2, 0, none⟩)), (5, .bool false)] (fun U10 => ?_)
  have hB := SG.blk s7 hB (by simp)
  have c11 := (SG.belowR (Below.refl _ _) s7 (fun kq e => by cases e))
  refine h1 _ _ ?_
  refine wp_seq_k (fun K2 h2 => ?_)
  refine W.region_plain (row := none) [(0, false), (1, false), (2, false), (3, true), (4, false)] (by kernel_rfl) ?_
  have s12 := SG.self w3 none
  refine W.ld (v := .slice A2 n2 c2) (hc := (sgS (blk_cell (j := 0) hB (by kernel_rfl)) (by simp))) (h := ?_)
  refine W.q (v := .agg #[.int .i64 p.id, .int .i64 p.fr, .int .i64 p.to, .int .i64 p.sz]) (hr := (r_load4 rfl (by kernel_rfl) (by kernel_rfl) (by kernel_rfl) (sgS (blk_cell (j := 0) x6 (by kernel_rfl)) (by simp)) (sgS (blk_cell (j := 1) x6 (by kernel_rfl)) (by simp)) (sgS (blk_cell (j := 2) x6 (by kernel_rfl)) (by simp)) (sgS (blk_cell (j := 3) x6 (by kernel_rfl)) (by simp)))) (h := ?_)
  refine W.mv (v := .int .i64 v) (h := ?_)
  refine W.sc (vs := [.slice A2 n2 c2, .agg #[.int .i64 p.id, .int .i64 p.fr, .int .i64 p.to, .int .i64 p.sz], .int .i64 v]) rfl rfl (by kernel_rfl) (by kernel_rfl) (by kernel_rfl) rfl (valveAt_any A2 n2 c2 vs p v _ (Rd.kept hb (SG.belowR c11 s12 (fun kq e => by cases e))) (by omega)) ?_
  rintro e w14 ⟨rfl, b13⟩
  have s15 := SG.of_below s12 b13
  refine ⟨_, rfl, s15, ?_⟩
  refine W.as (v := .int .i64 (idxV (atQ p v) vs)) (h := ?_)
  refine W.endF 21 [(0, .agg #[.int .i64 p.id, .int .i64 p.fr, .int .i64 p.to, .int .i64 p.sz]), (1, .int .i64 v), (2, .pointer (some ⟨B, 0, none⟩)), (3, .pointer (some ⟨b2, 0, none⟩)), (5, .bool false), (6, .int .i64 (idxV (atQ p v) vs))] (fun U16 => ?_)
  have hB := SG.blk s15 hB (by simp)
  have x6 := SG.blk s15 x6 (by simp)
  have c17 := (SG.belowR c11 s15 (fun kq e => by cases e))
  refine h2 _ _ ?_
  refine wp_seq_k (fun K3 h3 => ?_)
  refine W.region_quiet [(0, false), (1, false), (2, false), (3, false), (4, false), (5, false), (6, false), (7, false), (8, false), (9, false), (10, false)] (by kernel_rfl) ?_
  refine W.mv (v := .int .i64 (idxV (atQ p v) vs)) (h := ?_)
  by_cases q18 : (idxV (atQ p v) vs : Int) < (0 : Int)
  · refine W.q (v := .bool true) (hr := (r_lss (m := idxV (atQ p v) vs) (n := 0) rfl (by kernel_rfl) (by kernel_rfl) (decide_eq_true q18))) (h := ?_)
    refine W.mv (v := .bool true) (h := ?_)
    refine W.sp rfl (h := ?_)
    refine W.sp rfl (h := ?_)
    refine W.sp rfl (h := ?_)
    refine W.sp rfl (h := ?_)
    refine W.sp rfl (h := ?_)
    refine W.sp rfl (h := ?_)
    refine W.q (v := .bool true) (hr := (r_pick (b := true) rfl (by kernel_rfl) (by kernel_rfl))) (h := ?_)
    refine W.as (v := .bool true) (h := ?_)
    refine W.endF 21 [(0, .agg #[.int .i64 p.id, .int .i64 p.fr, .int .i64 p.to, .int .i64 p.sz]), (1, .int .i64 v), (2, .pointer (some ⟨B, 0, none⟩)), (3, .pointer (some ⟨b2, 0, none⟩)), (5, .bool true), (6, .int .i64 (idxV (atQ p v) vs))] (fun U19 => ?_)
    refine h3 _ _ ?_
    refine wp_ret ?_
    try simp only [Exit.then]
    refine ret1 (v := .bool true) rfl (by kernel_rfl) ?_
    exact ⟨ret_bool (idx_neg true q18).symm, c17⟩
  · refine W.q (v := .bool false) (hr := (r_lss (m := idxV (atQ p v) vs) (n := 0) rfl (by kernel_rfl) (by kernel_rfl) (decide_eq_false q18))) (h := ?_)
    refine W.mv (v := .bool false) (h := ?_)
    refine W.ld (v := .slice A2 n2 c2) (hc := (eqS (blk_cell (j := 0) hB (by kernel_rfl)))) (h := ?_)
    refine W.mv (v := .int .i64 (idxV (atQ p v) vs)) (h := ?_)
    obtain ⟨k9, x9, e9, hx9, hq9⟩ := idx_some q18
    have hk9 := (List.getElem?_eq_some_iff.1 hx9).1
    obtain ⟨b20, o21, hA22, hb23, hc24, hc25, hc26, hc27⟩ := Rd.elValve hb hx9
    refine W.q (v := .pointer (some ⟨b20, o21 + k9 * 4, none⟩)) (hr := (r_idx (n := n2) (c := c2) (k := k9) rfl (by kernel_rfl) hA22 (evk (z := idxV (atQ p v) vs) (by kernel_rfl) e9) (by kernel_rfl) (by have := hl2; omega))) (h := ?_)
    refine W.q (v := .pointer (some ⟨b20, o21 + k9 * 4 + 3, none⟩)) (hr := (r_field (k := 3) rfl (by kernel_rfl) (by kernel_rfl))) (h := ?_)
    refine W.ld (v := .bool x9.shut) (hc := (eqS (later c17 hc27))) (h := ?_)
    refine W.q (v := .bool (!x9.shut)) (hr := (r_not (b := x9.shut) rfl (by kernel_rfl) rfl)) (h := ?_)
    refine W.q (v := .bool (!x9.shut)) (hr := (r_pick (b := false) rfl (by kernel_rfl) (by kernel_rfl))) (h := ?_)
    refine W.as (v := .bool (!x9.shut)) (h := ?_)
    refine W.endF 21 [(0, .agg #[.int .i64 p.id, .int .i64 p.fr, .int .i64 p.to, .int .i64 p.sz]), (1, .int .i64 v), (2, .pointer (some ⟨B, 0, none⟩)), (3, .pointer (some ⟨b2, 0, none⟩)), (5, .bool (!x9.shut)), (6, .int .i64 (idxV (atQ p v) vs))] (fun U28 => ?_)
    refine h3 _ _ ?_
    refine wp_ret ?_
    try simp only [Exit.then]
    refine ret1 (v := .bool (!x9.shut)) rfl (by kernel_rfl) ?_
    exact ⟨ret_bool (idx_shut hu hx9 hq9).symm, c17⟩

set_option maxRecDepth 100000 in
set_option maxHeartbeats 1000000 in
theorem reached_any (m : Int) (A : Option Addr) (n c : Nat) (ps : List Pp) (a : Int) (s : Nat) (g : FuncId) (lb : Array Value) (q : Pp → Int → Bool) (w : World) (ha : Rd w 4 A n (pipesV ps)) (hn : n ≤ 1048576) (hp : pipesIn ps m.toNat) (hm : 1 ≤ m ∧ m ≤ 8) (hlen10 : ps.length ≤ 10) (hs : s < 19) (has : a = (s : Int)) (he : enters Try.prog g = true) (HG : ∀ W (p : Pp) (v : Int), Below w.heap.size w W → Calls Try.prog g (#[.agg #[.int .i64 p.id, .int .i64 p.fr, .int .i64 p.to, .int .i64 p.sz], .int .i64 v] ++ lb) W fun e w' => e = .returned (.bool (q p v)) ∧ Below W.heap.size W w') :
    Calls Try.prog 128 #[.agg #[.int .i64 m, .slice A n c], .int .i64 a, .func (.func g) #[] lb] w fun e w' => ∃ b, e = .returned (.pointer (some ⟨b, 0, none⟩)) ∧ w.heap.size ≤ b ∧ Rd w' 1 (some ⟨b, 0, none⟩) 19 (boolsV (wetL (linked ps q) a)) ∧ Below w.heap.size w w' := by
  have hl := rd_pipes_len ha
  subst has
  go_enter Try.func128, Try.ntmps128
  refine wp_seq_k (fun K1 h1 => ?_)
  refine W.region_plain (row := none) [(0, true), (1, false)] (by kernel_rfl) ?_
  have s1 := SG.self w none
  refine W.sn (fun b => .pointer (some ⟨b, 0, none⟩)) #[.int .i64 m, .slice A n c] 32 s1 rfl (by kernel_rfl) rfl (fun _ => by kernel_rfl) (fun b2 w3 hb4 k5 x6 s7 => ?_)
  have lo8 : w.heap.size ≤ b2 := by have := ((SG.belowR (Below.refl _ _) s1 (fun kq e => by cases e))).size; omega
  refine W.as (v := .pointer none) (h := ?_)
  refine W.endF 68 [(0, .agg #[.int .i64 m, .slice A n c]), (1, .int .i64 ((s : Nat) : Int)), (2, .func (.func g) #[] lb), (3, .pointer (some ⟨b2, 0, none⟩))] (fun U9 => ?_)
  have c10 := (SG.belowR (Below.refl _ _) s7 (fun kq e => by cases e))
  refine h1 _ _ ?_
  refine wp_seq_k (fun K2 h2 => ?_)
  refine W.region_plain (row := none) [(0, false), (1, true), (2, false)] (by kernel_rfl) ?_
  have s11 := SG.self w3 none
  refine W.q (v := .agg #[.bool false, .bool false, .bool false, .bool false, .bool false, .bool false, .bool false, .bool false, .bool false, .bool false, .bool false, .bool false, .bool false, .bool false, .bool false, .bool false, .bool false, .bool false, .bool false]) (hr := (r_build rfl (vs := []) (by kernel_rfl) (by kernel_rfl))) (h := ?_)
  refine W.sn (fun b => .pointer (some ⟨b, 0, none⟩)) #[.bool false, .bool false, .bool false, .bool false, .bool false, .bool false, .bool false, .bool false, .bool false, .bool false, .bool false, .bool false, .bool false, .bool false, .bool false, .bool false, .bool false, .bool false, .bool false] 140 s11 rfl (by kernel_rfl) rfl (fun _ => by kernel_rfl) (fun b12 w13 hb14 k15 x16 s17 => ?_)
  have lo18 : w.heap.size ≤ b12 := by have := ((SG.belowR c10 s11 (fun kq e => by cases e))).size; omega
  have ne19 : b2 ≠ b12 := by have := blk_lt x6; have := World.grownBy.size s11; omega
  have ho20 := own_blk (base := w.heap.size) (size := 1) (n := 19) x16 lo18 rfl (by omega)
  replace ho20 : World.ownsRow _ _ _ _ _ _ (boolsV (List.replicate 19 false)) := ho20
  have nb21 : Nb b2 (.slice (some ⟨b12, 0, none⟩) 19 19) := nb_new (by have := ne19; omega)
  refine W.as (v := .pointer (some ⟨b12, 0, none⟩)) (h := ?_)
  refine W.endF 68 [(0, .agg #[.int .i64 m, .slice A n c]), (1, .int .i64 ((s : Nat) : Int)), (2, .func (.func g) #[] lb), (3, .pointer (some ⟨b2, 0, none⟩)), (7, .pointer (some ⟨b12, 0, none⟩))] (fun U22 => ?_)
  have x6 := SG.blk s17 x6 (by simp)
  have c23 := (SG.belowR c10 s17 (fun kq e => by cases e))
  refine h2 _ _ ?_
  refine wp_seq_k (fun K3 h3 => ?_)
  refine W.region_plain (row := (Value.ownBlock (.slice (some ⟨b12, 0, none⟩) 19 19))) [(0, false), (1, false), (2, false), (3, false), (4, true)] (by kernel_rfl) ?_
  have s24 := SG.self w13 (Value.ownBlock (.slice (some ⟨b12, 0, none⟩) 19 19))
  refine W.mv (v := .pointer (some ⟨b12, 0, none⟩)) (h := ?_)
  refine W.mv (v := .int .i64 ((s : Nat) : Int)) (h := ?_)
  refine W.q (v := .pointer (some ⟨b12, 0, none⟩)) (hr := (r_nilCheck rfl (by kernel_rfl))) (h := ?_)
  refine W.q (v := .pointer (some ⟨b12, s, none⟩)) (hr := (r_idxA (len := 19) (k := s) rfl (by kernel_rfl) (by kernel_rfl) (by kernel_rfl) (by omega))) (h := ?_)
  refine W.ssr (base := w.heap.size) (e := 140) (j := s) (u := .bool true) s24 rfl (by kernel_rfl) rfl rfl (by kernel_rfl) (by kernel_rfl) ho20 (by kernel_rfl) (by kernel_rfl) (by kernel_rfl) (by omega) (.inl rfl) (fun w25 ho26 g27 s28 => ?_)
  have ho26 := own_setB ho26
  refine W.endF 68 [(0, .agg #[.int .i64 m, .slice A n c]), (1, .int .i64 ((s : Nat) : Int)), (2, .func (.func g) #[] lb), (3, .pointer (some ⟨b2, 0, none⟩)), (7, .pointer (some ⟨b12, 0, none⟩))] (fun U29 => ?_)
  have x6 := SG.blk s28 x6 nb21
  have c30 := (SG.belowR c23 s28 (fun kq e => (World.ownsRow.lt ho20 kq e).1))
  refine h3 _ _ ?_
  refine wp_seq_k (fun K4 h4 => ?_)
  refine wp_seq_k (fun K5 h5 => ?_)
  refine W.region_quiet [(0, false)] (by kernel_rfl) ?_
  refine W.as (v := .bool true) (h := ?_)
  refine W.endF 68 [(0, .agg #[.int .i64 m, .slice A n c]), (1, .int .i64 ((s : Nat) : Int)), (2, .func (.func g) #[] lb), (3, .pointer (some ⟨b2, 0, none⟩)), (7, .pointer (some ⟨b12, 0, none⟩)), (8, .bool true)] (fun U31 => ?_)
  refine h5 _ _ ?_
  refine wp_block ?_
  refine loopK (fun am0 aa0 wl0 => ∃ (bs0 : List Bool) (mo : Bool) (U0 : Nat → Value), aa0 = ⟨(fr U0 [(0, .agg #[.int .i64 m, .slice A n c]), (1, .int .i64 ((s : Nat) : Int)), (2, .func (.func g) #[] lb), (3, .pointer (some ⟨b2, 0, none⟩)), (7, .pointer (some ⟨b12, 0, none⟩)), (8, .bool mo)] 68 0).toArray, []⟩ ∧ (am0 = 2 * offs bs0 + mo.toNat) ∧ (FndE (linked ps q) ((s : Nat) : Int) (inL bs0)) ∧ (bs0.length = 19) ∧ (mo = false → shutE ps q (inL bs0) ps.length) ∧ (wl0.heap[b2]? = some (.cells #[.int .i64 m, .slice A n c] 32 (0, 0))) ∧ (wl0.ownsRow w.heap.size 140 1 (.slice (some ⟨b12, 0, none⟩) 19 19) 19 (boolsV bs0)) ∧ (Below w.heap.size w wl0)) (2 * offs ((List.replicate 19 false).set s true) + true.toNat) ?_ ?_
  · exact ⟨(List.replicate 19 false).set s true, true, (fun iU9 => lk [(0, .agg #[.int .i64 m, .slice A n c]), (1, .int .i64 ((s : Nat) : Int)), (2, .func (.func g) #[] lb), (3, .pointer (some ⟨b2, 0, none⟩)), (7, .pointer (some ⟨b12, 0, none⟩)), (8, .bool true)] iU9 (U31 iU9)), (by kernel_rfl), rfl, (FndE_start hs rfl), (by simp), (fun e => by cases e), x6, ho26, c30⟩
  rintro am0 aa0 wl0 K6 h6 ⟨bs0, mo, U0, rfl, rfl, hf, hlen, hsh, x6, ho0_7, c32⟩
  refine wp_seq_k (fun K7 h7 => ?_)
  refine wp_seq_k (fun K8 h8 => ?_)
  refine W.region_quiet [(0, false)] (by kernel_rfl) ?_
  refine W.mv (v := .bool mo) (h := ?_)
  refine W.endF 68 [(0, .agg #[.int .i64 m, .slice A n c]), (1, .int .i64 ((s : Nat) : Int)), (2, .func (.func g) #[] lb), (3, .pointer (some ⟨b2, 0, none⟩)), (7, .pointer (some ⟨b12, 0, none⟩)), (8, .bool mo), (19, .bool mo)] (fun U33 => ?_)
  refine h8 _ _ ?_
  rcases Bool.eq_false_or_eq_true mo with q34 | q34
  · rw [q34]
    have qmo := q34
    refine wp_cond_true (by kernel_rfl) ?_
    refine wp_skip ?_
    refine h7 _ _ ?_
    refine wp_block ?_
    refine wp_seq_k (fun K9 h9 => ?_)
    refine W.region_quiet [(0, false)] (by kernel_rfl) ?_
    refine W.as (v := .bool false) (h := ?_)
    refine W.endF 68 [(0, .agg #[.int .i64 m, .slice A n c]), (1, .int .i64 ((s : Nat) : Int)), (2, .func (.func g) #[] lb), (3, .pointer (some ⟨b2, 0, none⟩)), (7, .pointer (some ⟨b12, 0, none⟩)), (8, .bool false), (19, .bool true)] (fun U35 => ?_)
    refine h9 _ _ ?_
    refine wp_seq_k (fun K10 h10 => ?_)
    refine W.region_quiet [(0, false), (1, false), (2, false), (3, false)] (by kernel_rfl) ?_
    refine W.q (v := .pointer (some ⟨b2, 1, none⟩)) (hr := (r_field (k := 1) rfl (by kernel_rfl) (by kernel_rfl))) (h := ?_)
    refine W.ld (v := .slice A n c) (hc := (eqS (blk_cell (j := 1) x6 (by kernel_rfl)))) (h := ?_)
    refine W.q (v := .int .i64 ((n : Nat) : Int)) (hr := (r_len (A := A) (n := n) (c := c) rfl (by kernel_rfl) (by kernel_rfl))) (h := ?_)
    refine W.mv (v := .int .i64 0) (h := ?_)
    refine W.endF 68 [(0, .agg #[.int .i64 m, .slice A n c]), (1, .int .i64 ((s : Nat) : Int)), (2, .func (.func g) #[] lb), (3, .pointer (some ⟨b2, 0, none⟩)), (7, .pointer (some ⟨b12, 0, none⟩)), (8, .bool false), (19, .bool true), (21, .slice A n c), (22, .int .i64 ((n : Nat) : Int)), (23, .int .i64 0)] (fun U36 => ?_)
    refine h10 _ _ ?_
    refine wp_block ?_
    refine loopK (fun am1 aa1 wl1 => ∃ (i : Nat) (bs : List Bool) (mo2 : Bool) (U1 : Nat → Value), aa1 = ⟨(fr U1 [(0, .agg #[.int .i64 m, .slice A n c]), (1, .int .i64 ((s : Nat) : Int)), (2, .func (.func g) #[] lb), (3, .pointer (some ⟨b2, 0, none⟩)), (7, .pointer (some ⟨b12, 0, none⟩)), (8, .bool mo2), (19, .bool true), (21, .slice A n c), (22, .int .i64 ((n : Nat) : Int)), (23, .int .i64 ((i : Nat) : Int))] 68 0).toArray, []⟩ ∧ (am1 = n - i) ∧ (i ≤ n) ∧ (FndE (linked ps q) ((s : Nat) : Int) (inL bs)) ∧ (bs.length = 19) ∧ (mo2 = true → offs bs < offs bs0) ∧ (mo2 = false → bs = bs0 ∧ shutE ps q (inL bs) i) ∧ (wl1.heap[b2]? = some (.cells #[.int .i64 m, .slice A n c] 32 (0, 0))) ∧ (wl1.ownsRow w.heap.size 140 1 (.slice (some ⟨b12, 0, none⟩) 19 19) 19 (boolsV bs)) ∧ (Below w.heap.size w wl1)) (n - 0) ?_ ?_
    · exact ⟨0, bs0, false, (fun iU9 => lk [(0, .agg #[.int .i64 m, .slice A n c]), (1, .int .i64 ((s : Nat) : Int)), (2, .func (.func g) #[] lb), (3, .pointer (some ⟨b2, 0, none⟩)), (7, .pointer (some ⟨b12, 0, none⟩)), (8, .bool false), (19, .bool true), (21, .slice A n c), (22, .int .i64 ((n : Nat) : Int)), (23, .int .i64 0)] iU9 (U36 iU9)), (by kernel_rfl), rfl, (Nat.zero_le _), hf, hlen, (fun e => by cases e), (fun _ => ⟨rfl, shutE_zero _ _ _⟩), x6, ho0_7, c32⟩
    rintro am1 aa1 wl1 K11 h11 ⟨i, bs, mo2, U1, rfl, rfl, hi, hf2, hlen2, hmt2, hmf2, x6, ho1_7, c37⟩
    refine wp_seq_k (fun K12 h12 => ?_)
    refine W.region_quiet [(0, false)] (by kernel_rfl) ?_
    by_cases q38 : (((i : Nat) : Int) : Int) < (((n : Nat) : Int) : Int)
    · refine W.q (v := .bool true) (hr := (r_lss (m := ((i : Nat) : Int)) (n := ((n : Nat) : Int)) rfl (by kernel_rfl) (by kernel_rfl) (decide_eq_true q38))) (h := ?_)
      refine W.endF 68 [(0, .agg #[.int .i64 m, .slice A n c]), (1, .int .i64 ((s : Nat) : Int)), (2, .func (.func g) #[] lb), (3, .pointer (some ⟨b2, 0, none⟩)), (7, .pointer (some ⟨b12, 0, none⟩)), (8, .bool mo2), (19, .bool true), (21, .slice A n c), (22, .int .i64 ((n : Nat) : Int)), (23, .int .i64 ((i : Nat) : Int)), (24, .bool true)] (fun U39 => ?_)
      refine h12 _ _ ?_
      refine wp_seq_k (fun K13 h13 => ?_)
      refine wp_cond_true (by kernel_rfl) ?_
      refine wp_skip ?_
      refine h13 _ _ ?_
      refine wp_seq_k (fun K14 h14 => ?_)
      refine wp_block ?_
      refine wp_seq_k (fun K15 h15 => ?_)
      refine W.region_plain (row := none) [(0, false), (1, false), (2, false), (3, true), (4, false), (5, true)] (by kernel_rfl) ?_
      have s40 := SG.self wl1 none
      refine W.mv (v := .int .i64 ((i : Nat) : Int)) (h := ?_)
      obtain ⟨x41, hx42⟩ := get_of (zs := ps) (k := i) (by have := hl; omega)
      obtain ⟨b43, o44, hA45, hb46, hc47, hc48, hc49, hc50⟩ := Rd.elPipe ha hx42
      refine W.q (v := .pointer (some ⟨b43, o44 + i * 4, none⟩)) (hr := (r_idx (n := n) (c := c) (k := i) rfl (by kernel_rfl) hA45 (by kernel_rfl) (by kernel_rfl) (by have := hl; omega))) (h := ?_)
      refine W.q (v := .agg #[.int .i64 x41.id, .int .i64 x41.fr, .int .i64 x41.to, .int .i64 x41.sz]) (hr := (r_load4 rfl (by kernel_rfl) (by kernel_rfl) (by kernel_rfl) (sgS (later c37 hc47) (by simp)) (sgS (later c37 hc48) (by simp)) (sgS (later c37 hc49) (by simp)) (sgS (later c37 hc50) (by simp)))) (h := ?_)
      refine W.sn (fun b => .pointer (some ⟨b, 0, none⟩)) #[.int .i64 0, .int .i64 0, .int .i64 0, .int .i64 0] 72 s40 rfl (by kernel_rfl) rfl (fun _ => by kernel_rfl) (fun b51 w52 hb53 k54 x55 s56 => ?_)
      have lo57 : w.heap.size ≤ b51 := by have := ((SG.belowR c37 s40 (fun kq e => by cases e))).size; omega
      have ne58 : b2 ≠ b51 := by have := blk_lt x6; have := World.grownBy.size s40; omega
      have nb59 : Nb b51 (.slice (some ⟨b12, 0, none⟩) 19 19) := nb_hi ho1_7 (Nat.le_of_eq hb53)
      have ho60 := own_kept ho1_7 k54
      refine W.as (v := .int .i64 ((i : Nat) : Int)) (h := ?_)
      refine W.ss (v := .agg #[.int .i64 x41.id, .int .i64 x41.fr, .int .i64 x41.to, .int .i64 x41.sz]) (j := 0) (news := [.int .i64 x41.id, .int .i64 x41.fr, .int .i64 x41.to, .int .i64 x41.sz]) (cs' := #[.int .i64 x41.id, .int .i64 x41.fr, .int .i64 x41.to, .int .i64 x41.sz]) s56 rfl (by kernel_rfl) rfl rfl (by kernel_rfl) (by kernel_rfl) x55 (by kernel_rfl) (by kernel_rfl) (by simp) (by kernel_rfl) (by kernel_rfl) (.inr (by have := World.grownBy.size s40; have := hb53; omega)) (fun w61 g62 x63 s64 => ?_)
      have ho65 := own_grown ho60 g62 (fun j e1 e2 => by cases e2; exact nb59 e1.symm)
      refine W.endF 68 [(0, .agg #[.int .i64 m, .slice A n c]), (1, .int .i64 ((s : Nat) : Int)), (2, .func (.func g) #[] lb), (3, .pointer (some ⟨b2, 0, none⟩)), (7, .pointer (some ⟨b12, 0, none⟩)), (8, .bool mo2), (9, .int .i64 ((i : Nat) : Int)), (10, .pointer (some ⟨b51, 0, none⟩)), (19, .bool true), (21, .slice A n c), (22, .int .i64 ((n : Nat) : Int)), (23, .int .i64 ((i : Nat) : Int)), (24, .bool true)] (fun U66 => ?_)
      have x6 := SG.blk s64 x6 (by simp)
      have c67 := (SG.belowR c37 s64 (fun kq e => by cases e))
      refine h15 _ _ ?_
      refine wp_seq_k (fun K16 h16 => ?_)
      refine W.region_plain (row := none) [(0, false), (1, false), (2, false), (3, false), (4, true), (5, false), (6, false)] (by kernel_rfl) ?_
      have s68 := SG.self w61 none
      refine W.q (v := .pointer (some ⟨b51, 1, none⟩)) (hr := (r_field (k := 1) rfl (by kernel_rfl) (by kernel_rfl))) (h := ?_)
      refine W.ld (v := .int .i64 x41.fr) (hc := (sgS (blk_cell (j := 1) x63 (by kernel_rfl)) (by simp))) (h := ?_)
      refine W.q (v := .pointer (some ⟨b51, 2, none⟩)) (hr := (r_field (k := 2) rfl (by kernel_rfl) (by kernel_rfl))) (h := ?_)
      refine W.ld (v := .int .i64 x41.to) (hc := (sgS (blk_cell (j := 2) x63 (by kernel_rfl)) (by simp))) (h := ?_)
      refine W.sn (fun b => .slice (some ⟨b, 0, none⟩) 2 2) #[.int .i64 x41.fr, .int .i64 x41.to] 3 s68 rfl (by kernel_rfl) rfl (fun _ => by kernel_rfl) (fun b69 w70 hb71 k72 x73 s74 => ?_)
      have lo75 : w.heap.size ≤ b69 := by have := ((SG.belowR c67 s68 (fun kq e => by cases e))).size; omega
      have ne76 : b2 ≠ b69 := by have := blk_lt x6; have := World.grownBy.size s68; omega
      have ne77 : b51 ≠ b69 := by have := blk_lt x63; have := World.grownBy.size s68; omega
      have nb78 : Nb b69 (.slice (some ⟨b12, 0, none⟩) 19 19) := nb_hi ho65 (Nat.le_of_eq hb71)
      have ho79 := own_kept ho65 k72
      refine W.q (v := .int .i64 2) (hr := (r_len (A := (some ⟨b69, 0, none⟩)) (n := 2) (c := 2) rfl (by kernel_rfl) (by kernel_rfl))) (h := ?_)
      refine W.mv (v := .int .i64 0) (h := ?_)
      refine W.endF 68 [(0, .agg #[.int .i64 m, .slice A n c]), (1, .int .i64 ((s : Nat) : Int)), (2, .func (.func g) #[] lb), (3, .pointer (some ⟨b2, 0, none⟩)), (7, .pointer (some ⟨b12, 0, none⟩)), (8, .bool mo2), (9, .int .i64 ((i : Nat) : Int)), (10, .pointer (some ⟨b51, 0, none⟩)), (19, .bool true), (21, .slice A n c), (22, .int .i64 ((n : Nat) : Int)), (23, .int .i64 ((i : Nat) : Int)), (24, .bool true), (32, .slice (some ⟨b69, 0, none⟩) 2 2), (33, .int .i64 2), (34, .int .i64 0)] (fun U80 => ?_)
      have x6 := SG.blk s74 x6 (by simp)
      have x63 := SG.blk s74 x63 (by simp)
      have c81 := (SG.belowR c67 s74 (fun kq e => by cases e))
      refine h16 _ _ ?_
      refine wp_block ?_
      have ho82 := own_blk (base := w.heap.size) (size := 1) (n := 2) x73 lo75 rfl (by omega)
      replace ho82 : World.ownsRow _ _ _ _ _ _ (intsV [x41.fr, x41.to]) := ho82
      have nr83 : NbR (.slice (some ⟨b69, 0, none⟩) 2 2) (.slice (some ⟨b12, 0, none⟩) 19 19) := nbr_new nb78
      have nb84 : Nb b2 (.slice (some ⟨b69, 0, none⟩) 2 2) := nb_new (by have := ne76; omega)
      have nb85 : Nb b51 (.slice (some ⟨b69, 0, none⟩) 2 2) := nb_new (by have := ne77; omega)
      have rd87 := own_rd ho82
      have hl88 := rd_ints_len rd87
      refine loopK (fun am2 aa2 wl2 => ∃ (k : Nat) (cs : List Bool) (mo3 : Bool) (U2 : Nat → Value), aa2 = ⟨(fr U2 [(0, .agg #[.int .i64 m, .slice A n c]), (1, .int .i64 ((s : Nat) : Int)), (2, .func (.func g) #[] lb), (3, .pointer (some ⟨b2, 0, none⟩)), (7, .pointer (some ⟨b12, 0, none⟩)), (8, .bool mo3), (9, .int .i64 ((i : Nat) : Int)), (10, .pointer (some ⟨b51, 0, none⟩)), (19, .bool true), (21, .slice A n c), (22, .int .i64 ((n : Nat) : Int)), (23, .int .i64 ((i : Nat) : Int)), (24, .bool true), (32, .slice (some ⟨b69, 0, none⟩) 2 2), (33, .int .i64 2), (34, .int .i64 ((k : Nat) : Int))] 68 0).toArray, []⟩ ∧ (am2 = 2 - k) ∧ (k ≤ 2) ∧ (FndE (linked ps q) ((s : Nat) : Int) (inL cs)) ∧ (cs.length = 19) ∧ (mo3 = true → offs cs < offs bs0) ∧ (mo3 = false → cs = bs0 ∧ shutE ps q (inL cs) i ∧ (1 ≤ k → okP q (inL cs) i x41 x41.fr) ∧ (2 ≤ k → okP q (inL cs) i x41 x41.to)) ∧ (wl2.heap[b2]? = some (.cells #[.int .i64 m, .slice A n c] 32 (0, 0))) ∧ (wl2.heap[b51]? = some (.cells #[.int .i64 x41.id, .int .i64 x41.fr, .int .i64 x41.to, .int .i64 x41.sz] 72 (0, 0))) ∧ (wl2.ownsRow w.heap.size 140 1 (.slice (some ⟨b12, 0, none⟩) 19 19) 19 (boolsV cs)) ∧ (Rd wl2 1 (some ⟨b69, 0, none⟩) 2 (intsV ([x41.fr, x41.to]))) ∧ (Below w.heap.size w wl2)) (2 - 0) ?_ ?_
      · exact ⟨0, bs, mo2, (fun iU9 => lk [(0, .agg #[.int .i64 m, .slice A n c]), (1, .int .i64 ((s : Nat) : Int)), (2, .func (.func g) #[] lb), (3, .pointer (some ⟨b2, 0, none⟩)), (7, .pointer (some ⟨b12, 0, none⟩)), (8, .bool mo2), (9, .int .i64 ((i : Nat) : Int)), (10, .pointer (some ⟨b51, 0, none⟩)), (19, .bool true), (21, .slice A n c), (22, .int .i64 ((n : Nat) : Int)), (23, .int .i64 ((i : Nat) : Int)), (24, .bool true), (32, .slice (some ⟨b69, 0, none⟩) 2 2), (33, .int .i64 2), (34, .int .i64 0)] iU9 (U80 iU9)), (by kernel_rfl), rfl, (Nat.zero_le _), hf2, hlen2, hmt2, (fun e => ⟨(hmf2 e).1, (hmf2 e).2, fun h => absurd h (by omega), fun h => absurd h (by omega)⟩), x6, x63, ho79, rd87, c81⟩
      rintro am2 aa2 wl2 K17 h17 ⟨k, cs, mo3, U2, rfl, rfl, hk, hf3, hlen3, hmt3, hmf3, x6, x63, ho2_7, rd2_32, c89⟩
      refine wp_seq_k (fun K18 h18 => ?_)
      refine W.region_quiet [(0, false)] (by kernel_rfl) ?_
      by_cases q90 : (((k : Nat) : Int) : Int) < (2 : Int)
      · refine W.q (v := .bool true) (hr := (r_lss (m := ((k : Nat) : Int)) (n := 2) rfl (by kernel_rfl) (by kernel_rfl) (decide_eq_true q90))) (h := ?_)
        refine W.endF 68 [(0, .agg #[.int .i64 m, .slice A n c]), (1, .int .i64 ((s : Nat) : Int)), (2, .func (.func g) #[] lb), (3, .pointer (some ⟨b2, 0, none⟩)), (7, .pointer (some ⟨b12, 0, none⟩)), (8, .bool mo3), (9, .int .i64 ((i : Nat) : Int)), (10, .pointer (some ⟨b51, 0, none⟩)), (19, .bool true), (21, .slice A n c), (22, .int .i64 ((n : Nat) : Int)), (23, .int .i64 ((i : Nat) : Int)), (24, .bool true), (32, .slice (some ⟨b69, 0, none⟩) 2 2), (33, .int .i64 2), (34, .int .i64 ((k : Nat) : Int)), (35, .bool true)] (fun U91 => ?_)
        refine h18 _ _ ?_
        refine wp_seq_k (fun K19 h19 => ?_)
        refine wp_cond_true (by kernel_rfl) ?_
        refine wp_skip ?_
        refine h19 _ _ ?_
        refine wp_seq_k (fun K20 h20 => ?_)
        refine wp_block ?_
        refine wp_seq_k (fun K21 h21 => ?_)
        refine W.region_quiet [(0, false), (1, false), (2, false)] (by kernel_rfl) ?_
        obtain ⟨x92, hx93⟩ := get_of (zs := [x41.fr, x41.to]) (k := k) (by have := hl88; omega)
        have hy2 := two_of hx93
        have hpx := hp x41 (List.mem_of_getElem? hx42)
        obtain ⟨b94, o95, hA96, hb97, hc98⟩ := Rd.elInt rd2_32 hx93
        refine W.q (v := .pointer (some ⟨b94, o95 + k, none⟩)) (hr := (r_idx1 (n := 2) (c := 2) (k := k) rfl (by kernel_rfl) hA96 (by kernel_rfl) (by kernel_rfl) (by have := hl88; omega))) (h := ?_)
        refine W.ld (v := .int .i64 x92) (hc := (eqS hc98)) (h := ?_)
        refine W.as (v := .int .i64 x92) (h := ?_)
        refine W.endF 68 [(0, .agg #[.int .i64 m, .slice A n c]), (1, .int .i64 ((s : Nat) : Int)), (2, .func (.func g) #[] lb), (3, .pointer (some ⟨b2, 0, none⟩)), (7, .pointer (some ⟨b12, 0, none⟩)), (8, .bool mo3), (9, .int .i64 ((i : Nat) : Int)), (10, .pointer (some ⟨b51, 0, none⟩)), (12, .int .i64 x92), (19, .bool true), (21, .slice A n c), (22, .int .i64 ((n : Nat) : Int)), (23, .int .i64 ((i : Nat) : Int)), (24, .bool true), (32, .slice (some ⟨b69, 0, none⟩) 2 2), (33, .int .i64 2), (34, .int .i64 ((k : Nat) : Int)), (35, .bool true)] (fun U99 => ?_)
        refine h21 _ _ ?_
        refine wp_seq_k (fun K22 h22 => ?_)
        refine W.region_sch (row := none) (Sch.of [(0, false), (1, false), (2, false), (3, false), (4, false), (5, false), (6, false), (8, false), (7, true), (9, false), (10, false), (11, false), (12, false), (13, false), (14, false), (15, false), (16, true), (17, false)]) (by kernel_rfl) (by kernel_rfl) (fun _ d _ _ _ h => by cases d <;> exact h) (by kernel_rfl) (fun w100 e101 s102 => ?_)
        have ho103 := own_heap ho2_7 e101
        refine W.mv (v := .pointer (some ⟨b12, 0, none⟩)) (h := ?_)
        refine W.mv (v := .int .i64 x92) (h := ?_)
        refine W.q (v := .pointer (some ⟨b12, 0, none⟩)) (hr := (r_nilCheck rfl (by kernel_rfl))) (h := ?_)
        refine W.q (v := .pointer (some ⟨b12, x92.toNat, none⟩)) (hr := (r_idxA (len := 19) (k := x92.toNat) rfl (by kernel_rfl) (evk (z := x92) (by kernel_rfl) (by omega)) (by kernel_rfl) (by omega))) (h := ?_)
        obtain ⟨x104, hx105⟩ := get_of (zs := cs) (k := x92.toNat) (by have h9 := own_len ho103; rw [bools_len] at h9; omega)
        refine W.ld (v := .bool x104) (hc := (sgS (own_atB ho2_7 hx105) (by simp))) (h := ?_)
        refine W.mv (v := .pointer (some ⟨b12, 0, none⟩)) (h := ?_)
        refine W.mv (v := .int .i64 ((i : Nat) : Int)) (h := ?_)
        refine W.q (v := .pointer (some ⟨b12, 0, none⟩)) (hr := (r_nilCheck rfl (by kernel_rfl))) (h := ?_)
        refine W.sc (vs := [.int .i64 ((i : Nat) : Int)]) rfl rfl (by kernel_rfl) (by kernel_rfl) (by kernel_rfl) rfl (elementN_any i _ (by omega)) ?_
        rintro e w' ⟨rfl, rfl⟩
        refine ⟨_, rfl, s102, ?_⟩
        refine W.q (v := .pointer (some ⟨b12, 9 + i, none⟩)) (hr := (r_idxA (len := 19) (k := 9 + i) rfl (by kernel_rfl) (by kernel_rfl) (by kernel_rfl) (by omega))) (h := ?_)
        obtain ⟨x108, hx109⟩ := get_of (zs := cs) (k := 9 + i) (by have h9 := own_len ho103; rw [bools_len] at h9; omega)
        refine W.ld (v := .bool x108) (hc := (sgS (own_atB ho2_7 hx109) (by simp))) (h := ?_)
        by_cases q110 : x104 = x108
        · refine W.q (v := .bool false) (hr := (r_neqB (m := x104) (n := x108) rfl (by kernel_rfl) (by kernel_rfl) (by kernel_rfl) (by rw [(beq_iff_eq.2 q110)]; rfl))) (h := ?_)
          refine W.mv (v := .bool false) (h := ?_)
          refine W.sp s102 (h := ?_)
          refine W.sp s102 (h := ?_)
          refine W.sp s102 (h := ?_)
          refine W.sp s102 (h := ?_)
          refine W.q (v := .bool false) (hr := (r_pick (b := false) rfl (by kernel_rfl) (by kernel_rfl))) (h := ?_)
          refine W.endF 68 [(0, .agg #[.int .i64 m, .slice A n c]), (1, .int .i64 ((s : Nat) : Int)), (2, .func (.func g) #[] lb), (3, .pointer (some ⟨b2, 0, none⟩)), (7, .pointer (some ⟨b12, 0, none⟩)), (8, .bool mo3), (9, .int .i64 ((i : Nat) : Int)), (10, .pointer (some ⟨b51, 0, none⟩)), (12, .int .i64 x92), (19, .bool true), (21, .slice A n c), (22, .int .i64 ((n : Nat) : Int)), (23, .int .i64 ((i : Nat) : Int)), (24, .bool true), (32, .slice (some ⟨b69, 0, none⟩) 2 2), (33, .int .i64 2), (34, .int .i64 ((k : Nat) : Int)), (35, .bool true), (55, .bool false)] (fun U111 => ?_)
          have x6 := SG.blk s102 x6 (by simp)
          have x63 := SG.blk s102 x63 (by simp)
          have c112 := (SG.belowR c89 s102 (fun kq e => by cases e))
          have rd113 := Rd.kept rd2_32 (SG.below s102)
          refine h22 _ _ ?_
          refine wp_cond_false (by kernel_rfl) ?_
          refine wp_skip ?_
          refine h20 _ _ ?_
          refine W.region_quiet [(0, false), (1, false)] (by kernel_rfl) ?_
          refine W.q (v := .int .i64 ((k + 1 : Nat) : Int)) (hr := (r_add (m := ((k : Nat) : Int)) (n := 1) (z := ((k + 1 : Nat) : Int)) rfl (by kernel_rfl) (by kernel_rfl) (by omega) (by omega))) (h := ?_)
          refine W.mv (v := .int .i64 ((k + 1 : Nat) : Int)) (h := ?_)
          refine W.endF 68 [(0, .agg #[.int .i64 m, .slice A n c]), (1, .int .i64 ((s : Nat) : Int)), (2, .func (.func g) #[] lb), (3, .pointer (some ⟨b2, 0, none⟩)), (7, .pointer (some ⟨b12, 0, none⟩)), (8, .bool mo3), (9, .int .i64 ((i : Nat) : Int)), (10, .pointer (some ⟨b51, 0, none⟩)), (12, .int .i64 x92), (19, .bool true), (21, .slice A n c), (22, .int .i64 ((n : Nat) : Int)), (23, .int .i64 ((i : Nat) : Int)), (24, .bool true), (32, .slice (some ⟨b69, 0, none⟩) 2 2), (33, .int .i64 2), (34, .int .i64 ((k + 1 : Nat) : Int)), (35, .bool true), (55, .bool false)] (fun U114 => ?_)
          exact h17 _ _ _ (by omega : (2 - (k + 1)) < _) ⟨k + 1, cs, mo3, (fun iU9 => lk [(0, .agg #[.int .i64 m, .slice A n c]), (1, .int .i64 ((s : Nat) : Int)), (2, .func (.func g) #[] lb), (3, .pointer (some ⟨b2, 0, none⟩)), (7, .pointer (some ⟨b12, 0, none⟩)), (8, .bool mo3), (9, .int .i64 ((i : Nat) : Int)), (10, .pointer (some ⟨b51, 0, none⟩)), (12, .int .i64 x92), (19, .bool true), (21, .slice A n c), (22, .int .i64 ((n : Nat) : Int)), (23, .int .i64 ((i : Nat) : Int)), (24, .bool true), (32, .slice (some ⟨b69, 0, none⟩) 2 2), (33, .int .i64 2), (34, .int .i64 ((k + 1 : Nat) : Int)), (35, .bool true), (55, .bool false)] iU9 (U114 iU9)), (by kernel_rfl), rfl, (by omega), hf3, hlen3, hmt3, (fun e => ⟨(hmf3 e).1, (hmf3 e).2.1, two_next hy2 (hmf3 e).2.2.1 (okP_same (k := x92.toNat) (by omega) hx105 hx109 q110)⟩), x6, x63, ho103, rd113, c112⟩
        · refine W.q (v := .bool true) (hr := (r_neqB (m := x104) (n := x108) rfl (by kernel_rfl) (by kernel_rfl) (by kernel_rfl) (by rw [(beq_eq_false_iff_ne.2 q110)]; rfl))) (h := ?_)
          refine W.mv (v := .bool true) (h := ?_)
          refine W.mv (v := .func (.func g) #[] lb) (h := ?_)
          refine W.q (v := .agg #[.int .i64 x41.id, .int .i64 x41.fr, .int .i64 x41.to, .int .i64 x41.sz]) (hr := (r_load4 rfl (by kernel_rfl) (by kernel_rfl) (by kernel_rfl) (sgS (blk_cell (j := 0) x63 (by kernel_rfl)) (by simp)) (sgS (blk_cell (j := 1) x63 (by kernel_rfl)) (by simp)) (sgS (blk_cell (j := 2) x63 (by kernel_rfl)) (by simp)) (sgS (blk_cell (j := 3) x63 (by kernel_rfl)) (by simp)))) (h := ?_)
          refine W.mv (v := .int .i64 x92) (h := ?_)
          refine W.scv (vs := [.agg #[.int .i64 x41.id, .int .i64 x41.fr, .int .i64 x41.to, .int .i64 x41.sz], .int .i64 x92]) (g := g) (lb := lb) rfl rfl (by kernel_rfl) (by kernel_rfl) he (by kernel_rfl) rfl (HG _ x41 x92 ((SG.belowR c89 s102 (fun kq e => by cases e)))) ?_
          rintro e w116 ⟨rfl, b115⟩
          have s117 := SG.of_below s102 b115
          refine ⟨_, rfl, s117, ?_⟩
          have ho118 := own_kept ho103 b115
          rcases Bool.eq_false_or_eq_true (q x41 x92) with q119 | q119
          · rw [q119]
            refine W.q (v := .bool true) (hr := (r_pick (b := true) rfl (by kernel_rfl) (by kernel_rfl))) (h := ?_)
            refine W.endF 68 [(0, .agg #[.int .i64 m, .slice A n c]), (1, .int .i64 ((s : Nat) : Int)), (2, .func (.func g) #[] lb), (3, .pointer (some ⟨b2, 0, none⟩)), (7, .pointer (some ⟨b12, 0, none⟩)), (8, .bool mo3), (9, .int .i64 ((i : Nat) : Int)), (10, .pointer (some ⟨b51, 0, none⟩)), (12, .int .i64 x92), (19, .bool true), (21, .slice A n c), (22, .int .i64 ((n : Nat) : Int)), (23, .int .i64 ((i : Nat) : Int)), (24, .bool true), (32, .slice (some ⟨b69, 0, none⟩) 2 2), (33, .int .i64 2), (34, .int .i64 ((k : Nat) : Int)), (35, .bool true), (55, .bool true)] (fun U120 => ?_)
            have x6 := SG.blk s117 x6 (by simp)
            have x63 := SG.blk s117 x63 (by simp)
            have c121 := (SG.belowR c89 s117 (fun kq e => by cases e))
            have rd122 := Rd.kept rd2_32 (SG.below s117)
            refine h22 _ _ ?_
            refine wp_cond_true (by kernel_rfl) ?_
            refine W.region_sch (row := (Value.ownBlock (.slice (some ⟨b12, 0, none⟩) 19 19))) (Sch.of [(0, false), (1, false), (2, false), (3, false), (5, false), (8, false), (4, true), (6, false), (7, true), (9, false), (10, true), (11, false)]) (by kernel_rfl) (by kernel_rfl) (fun _ d _ _ _ h => by cases d <;> exact h) (by kernel_rfl) (fun w123 e124 s125 => ?_)
            have ho126 := own_heap ho118 e124
            refine W.mv (v := .pointer (some ⟨b12, 0, none⟩)) (h := ?_)
            refine W.mv (v := .int .i64 x92) (h := ?_)
            refine W.mv (v := .pointer (some ⟨b12, 0, none⟩)) (h := ?_)
            refine W.mv (v := .int .i64 ((i : Nat) : Int)) (h := ?_)
            refine W.q (v := .pointer (some ⟨b12, 0, none⟩)) (hr := (r_nilCheck rfl (by kernel_rfl))) (h := ?_)
            refine W.q (v := .pointer (some ⟨b12, 0, none⟩)) (hr := (r_nilCheck rfl (by kernel_rfl))) (h := ?_)
            refine W.sc (vs := [.int .i64 ((i : Nat) : Int)]) rfl rfl (by kernel_rfl) (by kernel_rfl) (by kernel_rfl) rfl (elementN_any i _ (by omega)) ?_
            rintro e w' ⟨rfl, rfl⟩
            refine ⟨_, rfl, s125, ?_⟩
            refine W.q (v := .pointer (some ⟨b12, x92.toNat, none⟩)) (hr := (r_idxA (len := 19) (k := x92.toNat) rfl (by kernel_rfl) (evk (z := x92) (by kernel_rfl) (by omega)) (by kernel_rfl) (by omega))) (h := ?_)
            refine W.ssr (base := w.heap.size) (e := 140) (j := x92.toNat) (u := .bool true) s125 rfl (by kernel_rfl) rfl rfl (by kernel_rfl) (by kernel_rfl) ho126 (by kernel_rfl) (by kernel_rfl) (by kernel_rfl) (by omega) (.inl rfl) (fun w129 ho130 g131 s132 => ?_)
            have ho130 := own_setB ho130
            refine W.q (v := .pointer (some ⟨b12, 9 + i, none⟩)) (hr := (r_idxA (len := 19) (k := 9 + i) rfl (by kernel_rfl) (by kernel_rfl) (by kernel_rfl) (by omega))) (h := ?_)
            refine W.ssr (base := w.heap.size) (e := 140) (j := 9 + i) (u := .bool true) s132 rfl (by kernel_rfl) rfl rfl (by kernel_rfl) (by kernel_rfl) ho130 (by kernel_rfl) (by kernel_rfl) (by kernel_rfl) (by omega) (.inl rfl) (fun w133 ho134 g135 s136 => ?_)
            have ho134 := own_setB ho134
            refine W.as (v := .bool true) (h := ?_)
            refine W.endF 68 [(0, .agg #[.int .i64 m, .slice A n c]), (1, .int .i64 ((s : Nat) : Int)), (2, .func (.func g) #[] lb), (3, .pointer (some ⟨b2, 0, none⟩)), (7, .pointer (some ⟨b12, 0, none⟩)), (8, .bool true), (9, .int .i64 ((i : Nat) : Int)), (10, .pointer (some ⟨b51, 0, none⟩)), (12, .int .i64 x92), (19, .bool true), (21, .slice A n c), (22, .int .i64 ((n : Nat) : Int)), (23, .int .i64 ((i : Nat) : Int)), (24, .bool true), (32, .slice (some ⟨b69, 0, none⟩) 2 2), (33, .int .i64 2), (34, .int .i64 ((k : Nat) : Int)), (35, .bool true), (55, .bool true)] (fun U137 => ?_)
            have x6 := SG.blk s136 x6 nb21
            have x63 := SG.blk s136 x63 nb59
            have c138 := (SG.belowR c121 s136 (fun kq e => (World.ownsRow.lt ho118 kq e).1))
            have rd139 := rd_nbr rd122 s136 nr83
            refine h20 _ _ ?_
            refine W.region_quiet [(0, false), (1, false)] (by kernel_rfl) ?_
            refine W.q (v := .int .i64 ((k + 1 : Nat) : Int)) (hr := (r_add (m := ((k : Nat) : Int)) (n := 1) (z := ((k + 1 : Nat) : Int)) rfl (by kernel_rfl) (by kernel_rfl) (by omega) (by omega))) (h := ?_)
            refine W.mv (v := .int .i64 ((k + 1 : Nat) : Int)) (h := ?_)
            refine W.endF 68 [(0, .agg #[.int .i64 m, .slice A n c]), (1, .int .i64 ((s : Nat) : Int)), (2, .func (.func g) #[] lb), (3, .pointer (some ⟨b2, 0, none⟩)), (7, .pointer (some ⟨b12, 0, none⟩)), (8, .bool true), (9, .int .i64 ((i : Nat) : Int)), (10, .pointer (some ⟨b51, 0, none⟩)), (12, .int .i64 x92), (19, .bool true), (21, .slice A n c), (22, .int .i64 ((n : Nat) : Int)), (23, .int .i64 ((i : Nat) : Int)), (24, .bool true), (32, .slice (some ⟨b69, 0, none⟩) 2 2), (33, .int .i64 2), (34, .int .i64 ((k + 1 : Nat) : Int)), (35, .bool true), (55, .bool true)] (fun U140 => ?_)
            exact h17 _ _ _ (by omega : (2 - (k + 1)) < _) ⟨k + 1, ((cs.set x92.toNat true).set (9 + i) true), true, (fun iU9 => lk [(0, .agg #[.int .i64 m, .slice A n c]), (1, .int .i64 ((s : Nat) : Int)), (2, .func (.func g) #[] lb), (3, .pointer (some ⟨b2, 0, none⟩)), (7, .pointer (some ⟨b12, 0, none⟩)), (8, .bool true), (9, .int .i64 ((i : Nat) : Int)), (10, .pointer (some ⟨b51, 0, none⟩)), (12, .int .i64 x92), (19, .bool true), (21, .slice A n c), (22, .int .i64 ((n : Nat) : Int)), (23, .int .i64 ((i : Nat) : Int)), (24, .bool true), (32, .slice (some ⟨b69, 0, none⟩) 2 2), (33, .int .i64 2), (34, .int .i64 ((k + 1 : Nat) : Int)), (35, .bool true), (55, .bool true)] iU9 (U140 iU9)), (by kernel_rfl), rfl, (by omega), (FndE.mark hf3 hx42 (by omega) q119 (by omega) (by omega) hx105 hx109 q110), (by simp [hlen3]), (fun _ => by have h9 := offs_two hx105 hx109 q110; rcases Bool.eq_false_or_eq_true mo3 with e | e <;> first | (have h8 := hmt3 e; omega) | (have h8 := (hmf3 e).1; rw [h8] at h9; rw [h8]; exact h9)), (fun e => by cases e), x6, x63, ho134, rd139, c138⟩
          · rw [q119]
            refine W.q (v := .bool false) (hr := (r_pick (b := true) rfl (by kernel_rfl) (by kernel_rfl))) (h := ?_)
            refine W.endF 68 [(0, .agg #[.int .i64 m, .slice A n c]), (1, .int .i64 ((s : Nat) : Int)), (2, .func (.func g) #[] lb), (3, .pointer (some ⟨b2, 0, none⟩)), (7, .pointer (some ⟨b12, 0, none⟩)), (8, .bool mo3), (9, .int .i64 ((i : Nat) : Int)), (10, .pointer (some ⟨b51, 0, none⟩)), (12, .int .i64 x92), (19, .bool true), (21, .slice A n c), (22, .int .i64 ((n : Nat) : Int)), (23, .int .i64 ((i : Nat) : Int)), (24, .bool true), (32, .slice (some ⟨b69, 0, none⟩) 2 2), (33, .int .i64 2), (34, .int .i64 ((k : Nat) : Int)), (35, .bool true), (55, .bool false)] (fun U141 => ?_)
            have x6 := SG.blk s117 x6 (by simp)
            have x63 := SG.blk s117 x63 (by simp)
            have c142 := (SG.belowR c89 s117 (fun kq e => by cases e))
            have rd143 := Rd.kept rd2_32 (SG.below s117)
            refine h22 _ _ ?_
            refine wp_cond_false (by kernel_rfl) ?_
            refine wp_skip ?_
            refine h20 _ _ ?_
            refine W.region_quiet [(0, false), (1, false)] (by kernel_rfl) ?_
            refine W.q (v := .int .i64 ((k + 1 : Nat) : Int)) (hr := (r_add (m := ((k : Nat) : Int)) (n := 1) (z := ((k + 1 : Nat) : Int)) rfl (by kernel_rfl) (by kernel_rfl) (by omega) (by omega))) (h := ?_)
            refine W.mv (v := .int .i64 ((k + 1 : Nat) : Int)) (h := ?_)
            refine W.endF 68 [(0, .agg #[.int .i64 m, .slice A n c]), (1, .int .i64 ((s : Nat) : Int)), (2, .func (.func g) #[] lb), (3, .pointer (some ⟨b2, 0, none⟩)), (7, .pointer (some ⟨b12, 0, none⟩)), (8, .bool mo3), (9, .int .i64 ((i : Nat) : Int)), (10, .pointer (some ⟨b51, 0, none⟩)), (12, .int .i64 x92), (19, .bool true), (21, .slice A n c), (22, .int .i64 ((n : Nat) : Int)), (23, .int .i64 ((i : Nat) : Int)), (24, .bool true), (32, .slice (some ⟨b69, 0, none⟩) 2 2), (33, .int .i64 2), (34, .int .i64 ((k + 1 : Nat) : Int)), (35, .bool true), (55, .bool false)] (fun U144 => ?_)
            exact h17 _ _ _ (by omega : (2 - (k + 1)) < _) ⟨k + 1, cs, mo3, (fun iU9 => lk [(0, .agg #[.int .i64 m, .slice A n c]), (1, .int .i64 ((s : Nat) : Int)), (2, .func (.func g) #[] lb), (3, .pointer (some ⟨b2, 0, none⟩)), (7, .pointer (some ⟨b12, 0, none⟩)), (8, .bool mo3), (9, .int .i64 ((i : Nat) : Int)), (10, .pointer (some ⟨b51, 0, none⟩)), (12, .int .i64 x92), (19, .bool true), (21, .slice A n c), (22, .int .i64 ((n : Nat) : Int)), (23, .int .i64 ((i : Nat) : Int)), (24, .bool true), (32, .slice (some ⟨b69, 0, none⟩) 2 2), (33, .int .i64 2), (34, .int .i64 ((k + 1 : Nat) : Int)), (35, .bool true), (55, .bool false)] iU9 (U144 iU9)), (by kernel_rfl), rfl, (by omega), hf3, hlen3, hmt3, (fun e => ⟨(hmf3 e).1, (hmf3 e).2.1, two_next hy2 (hmf3 e).2.2.1 (okP_shut q119)⟩), x6, x63, ho118, rd143, c142⟩
      · refine W.q (v := .bool false) (hr := (r_lss (m := ((k : Nat) : Int)) (n := 2) rfl (by kernel_rfl) (by kernel_rfl) (decide_eq_false q90))) (h := ?_)
        refine W.endF 68 [(0, .agg #[.int .i64 m, .slice A n c]), (1, .int .i64 ((s : Nat) : Int)), (2, .func (.func g) #[] lb), (3, .pointer (some ⟨b2, 0, none⟩)), (7, .pointer (some ⟨b12, 0, none⟩)), (8, .bool mo3), (9, .int .i64 ((i : Nat) : Int)), (10, .pointer (some ⟨b51, 0, none⟩)), (19, .bool true), (21, .slice A n c), (22, .int .i64 ((n : Nat) : Int)), (23, .int .i64 ((i : Nat) : Int)), (24, .bool true), (32, .slice (some ⟨b69, 0, none⟩) 2 2), (33, .int .i64 2), (34, .int .i64 ((k : Nat) : Int)), (35, .bool false)] (fun U145 => ?_)
        refine h18 _ _ ?_
        refine wp_seq_k (fun K23 h23 => ?_)
        refine wp_cond_false (by kernel_rfl) ?_
        refine wp_exit ?_
        refine h14 _ _ ?_
        refine W.region_quiet [(0, false), (1, false)] (by kernel_rfl) ?_
        refine W.q (v := .int .i64 ((i + 1 : Nat) : Int)) (hr := (r_add (m := ((i : Nat) : Int)) (n := 1) (z := ((i + 1 : Nat) : Int)) rfl (by kernel_rfl) (by kernel_rfl) (by omega) (by omega))) (h := ?_)
        refine W.mv (v := .int .i64 ((i + 1 : Nat) : Int)) (h := ?_)
        refine W.endF 68 [(0, .agg #[.int .i64 m, .slice A n c]), (1, .int .i64 ((s : Nat) : Int)), (2, .func (.func g) #[] lb), (3, .pointer (some ⟨b2, 0, none⟩)), (7, .pointer (some ⟨b12, 0, none⟩)), (8, .bool mo3), (9, .int .i64 ((i : Nat) : Int)), (10, .pointer (some ⟨b51, 0, none⟩)), (19, .bool true), (21, .slice A n c), (22, .int .i64 ((n : Nat) : Int)), (23, .int .i64 ((i + 1 : Nat) : Int)), (24, .bool true), (32, .slice (some ⟨b69, 0, none⟩) 2 2), (33, .int .i64 2), (34, .int .i64 ((k : Nat) : Int)), (35, .bool false)] (fun U146 => ?_)
        exact h11 _ _ _ (by omega : (n - (i + 1)) < _) ⟨i + 1, cs, mo3, (fun iU9 => lk [(0, .agg #[.int .i64 m, .slice A n c]), (1, .int .i64 ((s : Nat) : Int)), (2, .func (.func g) #[] lb), (3, .pointer (some ⟨b2, 0, none⟩)), (7, .pointer (some ⟨b12, 0, none⟩)), (8, .bool mo3), (9, .int .i64 ((i : Nat) : Int)), (10, .pointer (some ⟨b51, 0, none⟩)), (19, .bool true), (21, .slice A n c), (22, .int .i64 ((n : Nat) : Int)), (23, .int .i64 ((i + 1 : Nat) : Int)), (24, .bool true), (32, .slice (some ⟨b69, 0, none⟩) 2 2), (33, .int .i64 2), (34, .int .i64 ((k : Nat) : Int)), (35, .bool false)] iU9 (U146 iU9)), (by kernel_rfl), rfl, (by omega), hf3, hlen3, hmt3, (fun e => ⟨(hmf3 e).1, (hmf3 e).2.1.next hx42 ((hmf3 e).2.2.1 (by omega)) ((hmf3 e).2.2.2 (by omega))⟩), x6, ho2_7, c89⟩
    · refine W.q (v := .bool false) (hr := (r_lss (m := ((i : Nat) : Int)) (n := ((n : Nat) : Int)) rfl (by kernel_rfl) (by kernel_rfl) (decide_eq_false q38))) (h := ?_)
      refine W.endF 68 [(0, .agg #[.int .i64 m, .slice A n c]), (1, .int .i64 ((s : Nat) : Int)), (2, .func (.func g) #[] lb), (3, .pointer (some ⟨b2, 0, none⟩)), (7, .pointer (some ⟨b12, 0, none⟩)), (8, .bool mo2), (19, .bool true), (21, .slice A n c), (22, .int .i64 ((n : Nat) : Int)), (23, .int .i64 ((i : Nat) : Int)), (24, .bool false)] (fun U147 => ?_)
      refine h12 _ _ ?_
      refine wp_seq_k (fun K24 h24 => ?_)
      refine wp_cond_false (by kernel_rfl) ?_
      refine wp_exit ?_
      exact h6 _ _ _ (by rcases Bool.eq_false_or_eq_true mo2 with e | e <;> rw [e] <;> simp only [Bool.toNat_true, Bool.toNat_false, qmo] <;> first | (have h9 := hmt2 e; omega) | (rw [(hmf2 e).1]; omega) : (2 * offs bs + mo2.toNat) < _) ⟨bs, mo2, (fun iU9 => lk [(0, .agg #[.int .i64 m, .slice A n c]), (1, .int .i64 ((s : Nat) : Int)), (2, .func (.func g) #[] lb), (3, .pointer (some ⟨b2, 0, none⟩)), (7, .pointer (some ⟨b12, 0, none⟩)), (8, .bool mo2), (19, .bool true), (21, .slice A n c), (22, .int .i64 ((n : Nat) : Int)), (23, .int .i64 ((i : Nat) : Int)), (24, .bool false)] iU9 (U147 iU9)), (by kernel_rfl), rfl, hf2, hlen2, (fun e => by have h9 := (hmf2 e).2; rw [show i = ps.length by omega] at h9; exact h9), x6, ho1_7, c37⟩
  · rw [q34]
    have qmo := q34
    refine wp_cond_false (by kernel_rfl) ?_
    refine wp_exit ?_
    refine h4 _ _ ?_
    refine wp_seq_k (fun K25 h25 => ?_)
    refine W.region_quiet [(0, false), (1, false)] (by kernel_rfl) ?_
    refine W.mv (v := .pointer (some ⟨b12, 0, none⟩)) (h := ?_)
    refine W.as (v := .pointer (some ⟨b12, 0, none⟩)) (h := ?_)
    refine W.endF 68 [(0, .agg #[.int .i64 m, .slice A n c]), (1, .int .i64 ((s : Nat) : Int)), (2, .func (.func g) #[] lb), (3, .pointer (some ⟨b2, 0, none⟩)), (6, .pointer (some ⟨b12, 0, none⟩)), (7, .pointer (some ⟨b12, 0, none⟩)), (8, .bool false), (19, .bool false)] (fun U148 => ?_)
    refine h25 _ _ ?_
    refine wp_ret ?_
    try simp only [Exit.then]
    refine ret1 (v := .pointer (some ⟨b12, 0, none⟩)) rfl (by kernel_rfl) ?_
    have e9 := wetL_of hlen (FndE.fin hf (hsh qmo))
    exact ⟨_, rfl, (World.ownsRow.lt ho0_7 _ (by simp [Value.ownBlock])).1, (by rw [← e9]; exact own_rd ho0_7), c32⟩

set_option maxRecDepth 100000 in
set_option maxHeartbeats 1000000 in
theorem segmentOf_any (m : Int) (A : Option Addr) (n c : Nat) (ps : List Pp) (A2 : Option Addr) (n2 c2 : Nat) (vs : List Vv) (a : Int) (s : Nat) (w : World) (ha : Rd w 4 A n (pipesV ps)) (hb : Rd w 4 A2 n2 (valvesV vs)) (hn : n ≤ 1048576) (hn2 : n2 ≤ 1048576) (hp : pipesIn ps m.toNat) (hm : 1 ≤ m ∧ m ≤ 8) (hlen10 : ps.length ≤ 10) (hs : s < 19) (has : a = (s : Int)) :
    Calls Try.prog 114 #[.agg #[.int .i64 m, .slice A n c], .slice A2 n2 c2, .int .i64 a] w fun e w' => ∃ b, e = .returned (.pointer (some ⟨b, 0, none⟩)) ∧ w.heap.size ≤ b ∧ Rd w' 1 (some ⟨b, 0, none⟩) 19 (boolsV (wetL (linked ps (openQ vs false)) a)) ∧ Below w.heap.size w w' := by
  have hl := rd_pipes_len ha
  have hl2 := rd_valves_len hb
  go_enter Try.func114, Try.ntmps114
  refine wp_seq_k (fun K1 h1 => ?_)
  refine W.region_plain (row := none) [(0, true), (1, true), (2, false)] (by kernel_rfl) ?_
  have s1 := SG.self w none
  refine W.sn (fun b => .pointer (some ⟨b, 0, none⟩)) #[.int .i64 m, .slice A n c] 32 s1 rfl (by kernel_rfl) rfl (fun _ => by kernel_rfl) (fun b2 w3 hb4 k5 x6 s7 => ?_)
  have lo8 : w.heap.size ≤ b2 := by have := ((SG.belowR (Below.refl _ _) s1 (fun kq e => by cases e))).size; omega
  refine W.sn (fun b => .pointer (some ⟨b, 0, none⟩)) #[.slice A2 n2 c2] 34 s7 rfl (by kernel_rfl) rfl (fun _ => by kernel_rfl) (fun b9 w10 hb11 k12 x13 s14 => ?_)
  have lo15 : w.heap.size ≤ b9 := by have := ((SG.belowR (Below.refl _ _) s7 (fun kq e => by cases e))).size; omega
  have ne16 : b2 ≠ b9 := by have := blk_lt x6; omega
  have x6 := (k12.block _ (blk_lt x6)).trans x6
  refine W.as (v := .pointer none) (h := ?_)
  refine W.endF 11 [(0, .agg #[.int .i64 m, .slice A n c]), (1, .slice A2 n2 c2), (2, .int .i64 a), (3, .pointer (some ⟨b2, 0, none⟩)), (4, .pointer (some ⟨b9, 0, none⟩))] (fun U17 => ?_)
  have c18 := (SG.belowR (Below.refl _ _) s14 (fun kq e => by cases e))
  refine h1 _ _ ?_
  refine wp_seq_k (fun K2 h2 => ?_)
  refine W.region_plain (row := none) [(0, false), (1, false), (2, false), (3, true), (4, false)] (by kernel_rfl) ?_
  have s19 := SG.self w10 none
  refine W.q (v := .agg #[.int .i64 m, .slice A n c]) (hr := (r_load2 rfl (by kernel_rfl) (by kernel_rfl) (by kernel_rfl) (sgS (blk_cell (j := 0) x6 (by kernel_rfl)) (by simp)) (sgS (blk_cell (j := 1) x6 (by kernel_rfl)) (by simp)))) (h := ?_)
  refine W.mv (v := .int .i64 a) (h := ?_)
  refine W.q (v := .func (.func 137) #[] #[.pointer (some ⟨b9, 0, none⟩)]) (hr := (r_makeFunc (vs := [.pointer (some ⟨b9, 0, none⟩)]) rfl (by kernel_rfl))) (h := ?_)
  refine W.sc (vs := [.agg #[.int .i64 m, .slice A n c], .int .i64 a, .func (.func 137) #[] #[.pointer (some ⟨b9, 0, none⟩)]]) rfl rfl (by kernel_rfl) (by kernel_rfl) (by kernel_rfl) rfl (reached_any m A n c ps a s 137 #[.pointer (some ⟨b9, 0, none⟩)] (openQ vs false) _ (Rd.kept ha (SG.belowR c18 s19 (fun kq e => by cases e))) (by omega) hp hm hlen10 hs has (by kernel_rfl) (fun W p v hW => segF_any p v b9 A2 n2 c2 vs W ((hW.block _ (blk_lt x13)).trans x13) (Rd.kept (Rd.kept hb (SG.belowR c18 s19 (fun kq e => by cases e))) hW) (by omega))) ?_
  rintro e w26 ⟨pb20, rfl, lo24, rd21, b25⟩
  have s27 := SG.of_below s19 b25
  refine ⟨_, rfl, s27, ?_⟩
  have hl22 := rd_bools_len rd21
  refine W.as (v := .pointer (some ⟨pb20, 0, none⟩)) (h := ?_)
  refine W.endF 11 [(0, .agg #[.int .i64 m, .slice A n c]), (1, .slice A2 n2 c2), (2, .int .i64 a), (3, .pointer (some ⟨b2, 0, none⟩)), (4, .pointer (some ⟨b9, 0, none⟩)), (6, .pointer (some ⟨pb20, 0, none⟩))] (fun U28 => ?_)
  have x6 := SG.blk s27 x6 (by simp)
  have x13 := SG.blk s27 x13 (by simp)
  have c29 := (SG.belowR c18 s27 (fun kq e => by cases e))
  refine h2 _ _ ?_
  refine wp_ret ?_
  try simp only [Exit.then]
  refine ret1 (v := .pointer (some ⟨pb20, 0, none⟩)) rfl (by kernel_rfl) ?_
  exact ⟨_, rfl, (by have := ((SG.belowR c18 s19 (fun kq e => by cases e))).size; omega), rd21, c29⟩

set_option maxRecDepth 100000 in
set_option maxHeartbeats 1000000 in
theorem watered_any (m : Int) (A : Option Addr) (n c : Nat) (ps : List Pp) (A2 : Option Addr) (n2 c2 : Nat) (vs : List Vv) (a : Int) (s : Nat) (w : World) (ha : Rd w 4 A n (pipesV ps)) (hb : Rd w 4 A2 n2 (valvesV vs)) (hn : n ≤ 1048576) (hn2 : n2 ≤ 1048576) (hp : pipesIn ps m.toNat) (hm : 1 ≤ m ∧ m ≤ 8) (hlen10 : ps.length ≤ 10) (hu : uniqV vs) (hs : s < 19) (has : a = (s : Int)) :
    Calls Try.prog 100 #[.agg #[.int .i64 m, .slice A n c], .slice A2 n2 c2, .int .i64 a] w fun e w' => ∃ b, e = .returned (.pointer (some ⟨b, 0, none⟩)) ∧ w.heap.size ≤ b ∧ Rd w' 1 (some ⟨b, 0, none⟩) 19 (boolsV (wetL (linked ps (openQ vs true)) a)) ∧ Below w.heap.size w w' := by
  have hl := rd_pipes_len ha
  have hl2 := rd_valves_len hb
  go_enter Try.func100, Try.ntmps100
  refine wp_seq_k (fun K1 h1 => ?_)
  refine W.region_plain (row := none) [(0, true), (1, true), (2, false)] (by kernel_rfl) ?_
  have s1 := SG.self w none
  refine W.sn (fun b => .pointer (some ⟨b, 0, none⟩)) #[.int .i64 m, .slice A n c] 32 s1 rfl (by kernel_rfl) rfl (fun _ => by kernel_rfl) (fun b2 w3 hb4 k5 x6 s7 => ?_)
  have lo8 : w.heap.size ≤ b2 := by have := ((SG.belowR (Below.refl _ _) s1 (fun kq e => by cases e))).size; omega
  refine W.sn (fun b => .pointer (some ⟨b, 0, none⟩)) #[.slice A2 n2 c2] 34 s7 rfl (by kernel_rfl) rfl (fun _ => by kernel_rfl) (fun b9 w10 hb11 k12 x13 s14 => ?_)
  have lo15 : w.heap.size ≤ b9 := by have := ((SG.belowR (Below.refl _ _) s7 (fun kq e => by cases e))).size; omega
  have ne16 : b2 ≠ b9 := by have := blk_lt x6; omega
  have x6 := (k12.block _ (blk_lt x6)).trans x6
  refine W.as (v := .pointer none) (h := ?_)
  refine W.endF 11 [(0, .agg #[.int .i64 m, .slice A n c]), (1, .slice A2 n2 c2), (2, .int .i64 a), (3, .pointer (some ⟨b2, 0, none⟩)), (4, .pointer (some ⟨b9, 0, none⟩))] (fun U17 => ?_)
  have c18 := (SG.belowR (Below.refl _ _) s14 (fun kq e => by cases e))
  refine h1 _ _ ?_
  refine wp_seq_k (fun K2 h2 => ?_)
  refine W.region_plain (row := none) [(0, false), (1, false), (2, false), (3, true), (4, false)] (by kernel_rfl) ?_
  have s19 := SG.self w10 none
  refine W.q (v := .agg #[.int .i64 m, .slice A n c]) (hr := (r_load2 rfl (by kernel_rfl) (by kernel_rfl) (by kernel_rfl) (sgS (blk_cell (j := 0) x6 (by kernel_rfl)) (by simp)) (sgS (blk_cell (j := 1) x6 (by kernel_rfl)) (by simp)))) (h := ?_)
  refine W.mv (v := .int .i64 a) (h := ?_)
  refine W.q (v := .func (.func 129) #[] #[.pointer (some ⟨b9, 0, none⟩)]) (hr := (r_makeFunc (vs := [.pointer (some ⟨b9, 0, none⟩)]) rfl (by kernel_rfl))) (h := ?_)
  refine W.sc (vs := [.agg #[.int .i64 m, .slice A n c], .int .i64 a, .func (.func 129) #[] #[.pointer (some ⟨b9, 0, none⟩)]]) rfl rfl (by kernel_rfl) (by kernel_rfl) (by kernel_rfl) rfl (reached_any m A n c ps a s 129 #[.pointer (some ⟨b9, 0, none⟩)] (openQ vs true) _ (Rd.kept ha (SG.belowR c18 s19 (fun kq e => by cases e))) (by omega) hp hm hlen10 hs has (by kernel_rfl) (fun W p v hW => watF_any p v b9 A2 n2 c2 vs W ((hW.block _ (blk_lt x13)).trans x13) (Rd.kept (Rd.kept hb (SG.belowR c18 s19 (fun kq e => by cases e))) hW) (by omega) hu)) ?_
  rintro e w26 ⟨pb20, rfl, lo24, rd21, b25⟩
  have s27 := SG.of_below s19 b25
  refine ⟨_, rfl, s27, ?_⟩
  have hl22 := rd_bools_len rd21
  refine W.as (v := .pointer (some ⟨pb20, 0, none⟩)) (h := ?_)
  refine W.endF 11 [(0, .agg #[.int .i64 m, .slice A n c]), (1, .slice A2 n2 c2), (2, .int .i64 a), (3, .pointer (some ⟨b2, 0, none⟩)), (4, .pointer (some ⟨b9, 0, none⟩)), (6, .pointer (some ⟨pb20, 0, none⟩))] (fun U28 => ?_)
  have x6 := SG.blk s27 x6 (by simp)
  have x13 := SG.blk s27 x13 (by simp)
  have c29 := (SG.belowR c18 s27 (fun kq e => by cases e))
  refine h2 _ _ ?_
  refine wp_ret ?_
  try simp only [Exit.then]
  refine ret1 (v := .pointer (some ⟨pb20, 0, none⟩)) rfl (by kernel_rfl) ?_
  exact ⟨_, rfl, (by have := ((SG.belowR c18 s19 (fun kq e => by cases e))).size; omega), rd21, c29⟩

end Go.Proofs.Ytnfmdkbelbppdaa
