/- The library's functions over lists of numbers; rising lists. -/
import Derived.Test.YtnfmdkbelbppdaaBest
namespace Go.Proofs.Ytnfmdkbelbppdaa
open Go.RowKit
set_option linter.unusedVariables false
set_option linter.unusedSimpArgs false

/-- The index of the first number of a kind, -1 if there is none. -/
def idxI (q : Int → Bool) : List Int → Int
  | [] => -1
  | p :: ps => if q p = true then 0 else if idxI q ps < 0 then -1 else idxI q ps + 1
theorem idxI_at {q : Int → Bool} : ∀ {ps : List Int} {k : Nat} {x : Int}, (∀ j z, j < k → ps[j]? = some z → q z = false) → ps[k]? = some x → q x = true → idxI q ps = (k : Int)
  | [], k, x, _, hx, _ => by simp at hx
  | p :: ps, 0, x, _, hx, e => by simp at hx; subst hx; unfold idxI; rw [if_pos e]; rfl
  | p :: ps, k + 1, x, h, hx, e => by
    have h0 := h 0 p (by omega) rfl
    have ih := idxI_at (q := q) (ps := ps) (k := k) (fun j z hj hz => h (j + 1) z (by omega) (by simpa using hz)) (by simpa using hx) e
    unfold idxI; rw [if_neg (by rw [h0]; simp), ih, if_neg (by omega)]; omega
theorem idxI_none {q : Int → Bool} : ∀ {ps : List Int}, (∀ (j : Nat) z, j < ps.length → ps[j]? = some z → q z = false) → idxI q ps = -1
  | [], _ => rfl
  | p :: ps, h => by
    have h0 := h 0 p (by simp) rfl
    have ih := idxI_none (q := q) (ps := ps) (fun j z hj hz => h (j + 1) z (by simp; omega) (by simpa using hz))
    unfold idxI; rw [if_neg (by rw [h0]; simp), ih]; rfl
theorem idxI_pos (q : Int → Bool) (ps : List Int) : decide (0 ≤ idxI q ps) = ps.any q := by
  induction ps with
  | nil => rfl
  | cons p ps ih =>
    unfold idxI
    by_cases hp : q p = true
    · rw [if_pos hp]; simp [hp]
    · rw [if_neg hp]
      have hp' : q p = false := by simpa using hp
      rw [List.any_cons, hp', Bool.false_or, ← ih]
      by_cases h : idxI q ps < 0
      · rw [if_pos h]; exact decide_eq_decide.2 (by omega)
      · rw [if_neg h]; exact decide_eq_decide.2 (by omega)
theorem idxI_has (x : Int) (ps : List Int) : decide (0 ≤ idxI (fun z => decide (x = z)) ps) = ps.contains x := by
  rw [idxI_pos, Bool.eq_iff_iff, List.any_eq_true, List.contains_iff_mem]
  constructor
  · rintro ⟨z, hz, h⟩; simp at h; subst h; exact hz
  · intro h; exact ⟨x, h, by simp⟩
def cmpI (a b : Int) : Int := if a < b then -1 else if b < a then 1 else 0
theorem cmpL_take : ∀ {us ws : List Int} {k : Nat}, (∀ (j : Nat) x y, j < k → us[j]? = some x → ws[j]? = some y → x = y) → k ≤ us.length → k ≤ ws.length → cmpL us ws = cmpL (us.drop k) (ws.drop k)
  | us, ws, 0, _, _, _ => by simp
  | [], ws, k + 1, _, h, _ => by simp at h
  | a :: us, [], k + 1, _, _, h => by simp at h
  | a :: us, b :: ws, k + 1, h, h1, h2 => by
    have e : a = b := h 0 a b (by omega) rfl rfl
    have ih := cmpL_take (us := us) (ws := ws) (k := k) (fun j x y hj hx hy => h (j + 1) x y (by omega) (by simpa using hx) (by simpa using hy)) (by simpa using h1) (by simpa using h2)
    subst e
    rw [cmpL, if_neg (by omega), if_neg (by omega), ih]; rfl
theorem cmpL_ne {us ws : List Int} {k : Nat} {x y : Int} (h : ∀ (j : Nat) x y, j < k → us[j]? = some x → ws[j]? = some y → x = y) (hx : us[k]? = some x) (hy : ws[k]? = some y) (hne : cmpI x y ≠ 0) : cmpL us ws = cmpI x y := by
  have h1 := (List.getElem?_eq_some_iff.1 hx)
  have h2 := (List.getElem?_eq_some_iff.1 hy)
  obtain ⟨h1, e1⟩ := h1
  obtain ⟨h2, e2⟩ := h2
  rw [cmpL_take h (by omega) (by omega), List.drop_eq_getElem_cons h1, List.drop_eq_getElem_cons h2, e1, e2, cmpL]
  unfold cmpI at hne ⊢
  by_cases q1 : x < y
  · rw [if_pos q1, if_pos q1]
  · rw [if_neg q1, if_neg q1]
    by_cases q2 : y < x
    · rw [if_pos q2, if_pos q2]
    · rw [if_neg q1, if_neg q2] at hne; exact absurd rfl hne
theorem cmpI_zero {x y : Int} (h : cmpI x y = 0) : x = y := by
  unfold cmpI at h; split at h
  · omega
  · split at h <;> omega
theorem upto2 {us ws : List Int} {k : Nat} {x y : Int} (h : ∀ (j : Nat) x y, j < k → us[j]? = some x → ws[j]? = some y → x = y) (hx : us[k]? = some x) (hy : ws[k]? = some y) (e : cmpI x y = 0) : ∀ (j : Nat) x y, j < k + 1 → us[j]? = some x → ws[j]? = some y → x = y := fun j a b hj ha hb => by
  by_cases e1 : j = k
  · subst e1; rw [hx] at ha; rw [hy] at hb; cases ha; cases hb; exact cmpI_zero e
  · exact h j a b (by omega) ha hb
theorem cmpL_end {us ws : List Int} {k : Nat} (h : ∀ (j : Nat) x y, j < k → us[j]? = some x → ws[j]? = some y → x = y) (h1 : k ≤ us.length) (h2 : k ≤ ws.length) (he : us.length ≤ k ∨ ws.length ≤ k) :
    cmpL us ws = if us.length < ws.length then -1 else if ws.length < us.length then 1 else 0 := by
  rw [cmpL_take h h1 h2]
  by_cases q1 : us.length ≤ k
  · rw [List.drop_eq_nil_of_le q1]
    by_cases q2 : ws.length ≤ k
    · rw [List.drop_eq_nil_of_le q2, if_neg (by omega), if_neg (by omega)]; rfl
    · rw [if_pos (by omega), List.drop_eq_getElem_cons (by omega : k < ws.length)]; rfl
  · rw [if_neg (by omega), if_pos (by omega), List.drop_eq_getElem_cons (by omega : k < us.length), List.drop_eq_nil_of_le (by omega : ws.length ≤ k)]; rfl
/-- Rising, within bounds, up to k. -/
def okI (lo hi : Int) (zs : List Int) : Nat → Bool
  | 0 => match zs[0]? with | some z => inB z lo hi | none => true
  | k + 1 => match zs[k + 1]?, zs[k]? with | some z, some y => inB z lo hi && decide (y < z) | _, _ => true
def riseTo (lo hi : Int) (zs : List Int) : Nat → Bool
  | 0 => true
  | k + 1 => riseTo lo hi zs k && okI lo hi zs k
def riseL (lo hi : Int) (zs : List Int) : Bool := riseTo lo hi zs zs.length
theorem riseTo_bad {lo hi : Int} {zs : List Int} {k : Nat} (h : okI lo hi zs k = false) : ∀ n, k < n → riseTo lo hi zs n = false
  | 0, hk => absurd hk (by omega)
  | n + 1, hk => by
    by_cases e : k = n
    · subst e; unfold riseTo; rw [h]; simp
    · unfold riseTo; rw [riseTo_bad h n (by omega)]; rfl
theorem riseL_bad {lo hi : Int} {zs : List Int} {k : Nat} (hk : k < zs.length) (h : okI lo hi zs k = false) : riseL lo hi zs = false := riseTo_bad h _ hk
theorem riseTo_next {lo hi : Int} {zs : List Int} {k : Nat} (h : riseTo lo hi zs k = true) (h' : okI lo hi zs k = true) : riseTo lo hi zs (k + 1) = true := by unfold riseTo; rw [h, h']; rfl
theorem okI_zero {lo hi : Int} {zs : List Int} {z : Int} (h : zs[0]? = some z) : okI lo hi zs 0 = inB z lo hi := by unfold okI; rw [h]
theorem okI_next {lo hi : Int} {zs : List Int} {k : Nat} {z y : Int} (h : zs[k + 1]? = some z) (h' : zs[k]? = some y) : okI lo hi zs (k + 1) = (inB z lo hi && decide (y < z)) := by simp [okI, h, h']
theorem okI_out {lo hi : Int} {zs : List Int} {k : Nat} {z : Int} (h : zs[k]? = some z) (hz : inB z lo hi = false) : okI lo hi zs k = false := by
  rcases k with _ | k
  · rw [okI_zero h, hz]
  · have hk : k + 1 < zs.length := (List.getElem?_eq_some_iff.1 h).1
    have hy : zs[k]? = some zs[k] := List.getElem?_eq_getElem (by omega)
    rw [okI_next h hy, hz]; rfl

set_option maxRecDepth 100000 in
set_option maxHeartbeats 1000000 in
theorem slIndex_any (A : Option Addr) (n c : Nat) (zs : List Int) (x : Int) (w : World) (ha : Rd w 1 A n (intsV zs)) (hn : n ≤ 1048576) :
    Calls Try.prog 141 #[.slice A n c, .int .i64 x] w fun e w' => e = .returned (.int .i64 (idxI (fun z => decide (x = z)) zs)) ∧ Below w.heap.size w w' := by
  have hl := rd_ints_len ha
  go_enter Try.func141, Try.ntmps141
  refine wp_seq_k (fun K1 h1 => ?_)
  refine W.region_quiet [(0, false)] (by kernel_rfl) ?_
  refine W.sq (v := .int .i64 0) rfl (r_assign rfl (by kernel_rfl)) (by kernel_rfl) rfl rfl ?_
  refine W.sch_end (l' := [.slice A n c, .int .i64 x, undef, undef, .int .i64 0, undef, undef, undef, undef, undef, undef, undef, undef, undef, undef, undef, undef, undef, undef]) (by kernel_rfl) ?_
  refine h1 _ _ ?_
  refine wp_seq_k (fun K2 h2 => ?_)
  refine wp_seq_k (fun K3 h3 => ?_)
  refine W.region_quiet [(0, false), (1, false), (2, false)] (by kernel_rfl) ?_
  refine W.sq (v := .slice A n c) rfl (r_move rfl (by kernel_rfl)) (by kernel_rfl) rfl rfl ?_
  refine W.sq (v := .int .i64 ((n : Nat) : Int)) rfl (r_len (A := A) (n := n) (c := c) rfl (by kernel_rfl) (by kernel_rfl)) (by kernel_rfl) rfl rfl ?_
  refine W.sq (v := .int .i64 0) rfl (r_move rfl (by kernel_rfl)) (by kernel_rfl) rfl rfl ?_
  refine W.sch_endU (fun U1 => [.slice A n c, .int .i64 x, undef, undef, .int .i64 0, undef, U1 6, .int .i64 ((n : Nat) : Int), .int .i64 0, undef, undef, undef, undef, undef, undef, undef, undef, undef, undef]) (by kernel_rfl) (fun U1 => ?_)
  refine h3 _ _ ?_
  refine wp_block ?_
  refine loopK (fun am0 aa0 wl0 => ∃ (k : Nat) (U0 : Nat → Value), aa0 = ⟨[.slice A n c, .int .i64 x, undef, undef, .int .i64 0, U0 5, (U1 6), .int .i64 ((n : Nat) : Int), .int .i64 ((k : Nat) : Int), U0 9, U0 10, U0 11, U0 12, U0 13, U0 14, U0 15, U0 16, U0 17, U0 18].toArray, []⟩ ∧ (am0 = n - k) ∧ (k ≤ n) ∧ (∀ j z, j < k → zs[j]? = some z → (fun z => decide (x = z)) z = false) ∧ (Below w.heap.size w wl0)) (n - 0) ?_ ?_
  · exact ⟨0, (fun iU9 => [.slice A n c, .int .i64 x, undef, undef, .int .i64 0, undef, (U1 6), .int .i64 ((n : Nat) : Int), .int .i64 0, undef, undef, undef, undef, undef, undef, undef, undef, undef, undef].getD iU9 undef), (by kernel_rfl), rfl, (Nat.zero_le _), (fun j z hj => absurd hj (by omega)), (Below.refl _ _)⟩
  rintro am0 aa0 wl0 K4 h4 ⟨k, U0, rfl, rfl, hk, hno, c2⟩
  refine wp_seq_k (fun K5 h5 => ?_)
  refine W.region_quiet [(0, false)] (by kernel_rfl) ?_
  by_cases q3 : (((k : Nat) : Int) : Int) < (((n : Nat) : Int) : Int)
  · refine W.sq (v := .bool true) rfl (r_lss (m := ((k : Nat) : Int)) (n := ((n : Nat) : Int)) rfl (by kernel_rfl) (by kernel_rfl) (decide_eq_true q3)) (by kernel_rfl) rfl rfl ?_
    refine W.sch_end (l' := [.slice A n c, .int .i64 x, undef, undef, .int .i64 0, (U0 5), (U1 6), .int .i64 ((n : Nat) : Int), .int .i64 ((k : Nat) : Int), .bool true, (U0 10), (U0 11), (U0 12), (U0 13), (U0 14), (U0 15), (U0 16), (U0 17), (U0 18)]) (by kernel_rfl) ?_
    refine h5 _ _ ?_
    refine wp_seq_k (fun K6 h6 => ?_)
    refine wp_cond_true (by kernel_rfl) ?_
    refine wp_skip ?_
    refine h6 _ _ ?_
    refine wp_seq_k (fun K7 h7 => ?_)
    refine wp_block ?_
    refine wp_seq_k (fun K8 h8 => ?_)
    refine W.region_quiet [(0, false), (1, false)] (by kernel_rfl) ?_
    refine W.sq (v := .int .i64 ((k : Nat) : Int)) rfl (r_move rfl (by kernel_rfl)) (by kernel_rfl) rfl rfl ?_
    refine W.sq (v := .int .i64 ((k : Nat) : Int)) rfl (r_assign rfl (by kernel_rfl)) (by kernel_rfl) rfl rfl ?_
    refine W.sch_endU (fun U4 => [.slice A n c, .int .i64 x, undef, undef, .int .i64 0, .int .i64 ((k : Nat) : Int), (U1 6), .int .i64 ((n : Nat) : Int), .int .i64 ((k : Nat) : Int), .bool true, U4 10, (U0 11), (U0 12), (U0 13), (U0 14), (U0 15), (U0 16), (U0 17), (U0 18)]) (by kernel_rfl) (fun U4 => ?_)
    refine h8 _ _ ?_
    refine wp_seq_k (fun K9 h9 => ?_)
    refine W.region_quiet [(0, false), (1, false), (2, false), (3, false), (4, false), (5, false)] (by kernel_rfl) ?_
    refine W.sq (v := .int .i64 x) rfl (r_move rfl (by kernel_rfl)) (by kernel_rfl) rfl rfl ?_
    refine W.sq (v := .slice A n c) rfl (r_move rfl (by kernel_rfl)) (by kernel_rfl) rfl rfl ?_
    refine W.sq (v := .int .i64 ((k : Nat) : Int)) rfl (r_move rfl (by kernel_rfl)) (by kernel_rfl) rfl rfl ?_
    obtain ⟨x5, hx6⟩ := get_of (zs := zs) (k := k) (by have := hl; omega)
    obtain ⟨b7, o8, hA9, hb10, hc11⟩ := Rd.elInt ha hx6
    refine W.sq (v := .pointer (some ⟨b7, o8 + k, none⟩)) rfl (r_idx1 (n := n) (c := c) (k := k) rfl (by kernel_rfl) hA9 (by kernel_rfl) (by kernel_rfl) (by have := hl; omega)) (by kernel_rfl) rfl rfl ?_
    refine W.sq (v := .int .i64 x5) rfl (r_load rfl (by kernel_rfl) (by kernel_rfl) (eqS (later c2 hc11))) (by kernel_rfl) rfl rfl ?_
    by_cases q12 : (x : Int) = (x5 : Int)
    · refine W.sq (v := .bool true) rfl (r_eql (m := x) (n := x5) rfl (by kernel_rfl) (by kernel_rfl) (decide_eq_true q12)) (by kernel_rfl) rfl rfl ?_
      refine W.sch_endU (fun U13 => [.slice A n c, .int .i64 x, undef, undef, .int .i64 0, .int .i64 ((k : Nat) : Int), (U1 6), .int .i64 ((n : Nat) : Int), .int .i64 ((k : Nat) : Int), .bool true, (U4 10), U13 11, U13 12, U13 13, U13 14, U13 15, .bool true, (U0 17), (U0 18)]) (by kernel_rfl) (fun U13 => ?_)
      refine h9 _ _ ?_
      refine wp_cond_true (by kernel_rfl) ?_
      refine wp_seq_k (fun K10 h10 => ?_)
      refine W.region_quiet [(0, false), (1, false)] (by kernel_rfl) ?_
      refine W.sq (v := .int .i64 ((k : Nat) : Int)) rfl (r_move rfl (by kernel_rfl)) (by kernel_rfl) rfl rfl ?_
      refine W.sq (v := .int .i64 ((k : Nat) : Int)) rfl (r_assign rfl (by kernel_rfl)) (by kernel_rfl) rfl rfl ?_
      refine W.sch_endU (fun U14 => [.slice A n c, .int .i64 x, undef, undef, .int .i64 ((k : Nat) : Int), .int .i64 ((k : Nat) : Int), (U1 6), .int .i64 ((n : Nat) : Int), .int .i64 ((k : Nat) : Int), .bool true, (U4 10), (U13 11), (U13 12), (U13 13), (U13 14), (U13 15), .bool true, U14 17, (U0 18)]) (by kernel_rfl) (fun U14 => ?_)
      refine h10 _ _ ?_
      refine wp_ret ?_
      try simp only [Exit.then, Exit.inBlock]
      refine ret1 (v := .int .i64 ((k : Nat) : Int)) rfl (by kernel_rfl) ?_
      exact ⟨by rw [idxI_at (q := (fun z => decide (x = z))) hno hx6 (decide_eq_true (by omega))], c2⟩
    · refine W.sq (v := .bool false) rfl (r_eql (m := x) (n := x5) rfl (by kernel_rfl) (by kernel_rfl) (decide_eq_false q12)) (by kernel_rfl) rfl rfl ?_
      refine W.sch_endU (fun U15 => [.slice A n c, .int .i64 x, undef, undef, .int .i64 0, .int .i64 ((k : Nat) : Int), (U1 6), .int .i64 ((n : Nat) : Int), .int .i64 ((k : Nat) : Int), .bool true, (U4 10), U15 11, U15 12, U15 13, U15 14, U15 15, .bool false, (U0 17), (U0 18)]) (by kernel_rfl) (fun U15 => ?_)
      refine h9 _ _ ?_
      refine wp_cond_false (by kernel_rfl) ?_
      refine wp_skip ?_
      refine h7 _ _ ?_
      refine W.region_quiet [(0, false), (1, false)] (by kernel_rfl) ?_
      refine W.sq (v := .int .i64 ((k + 1 : Nat) : Int)) rfl (r_add (m := ((k : Nat) : Int)) (n := 1) (z := ((k + 1 : Nat) : Int)) rfl (by kernel_rfl) (by kernel_rfl) (by omega) (by omega)) (by kernel_rfl) rfl rfl ?_
      refine W.sq (v := .int .i64 ((k + 1 : Nat) : Int)) rfl (r_move rfl (by kernel_rfl)) (by kernel_rfl) rfl rfl ?_
      refine W.sch_endU (fun U16 => [.slice A n c, .int .i64 x, undef, undef, .int .i64 0, .int .i64 ((k : Nat) : Int), (U1 6), .int .i64 ((n : Nat) : Int), .int .i64 ((k + 1 : Nat) : Int), .bool true, (U4 10), (U15 11), (U15 12), (U15 13), (U15 14), (U15 15), .bool false, (U0 17), U16 18]) (by kernel_rfl) (fun U16 => ?_)
      exact h4 _ _ _ (by omega : (n - (k + 1)) < _) ⟨k + 1, (fun iU9 => [.slice A n c, .int .i64 x, undef, undef, .int .i64 0, .int .i64 ((k : Nat) : Int), (U1 6), .int .i64 ((n : Nat) : Int), .int .i64 ((k + 1 : Nat) : Int), .bool true, (U4 10), (U15 11), (U15 12), (U15 13), (U15 14), (U15 15), .bool false, (U0 17), (U16 18)].getD iU9 undef), (by kernel_rfl), rfl, (by omega), (upto_succ (Q := fun z => (fun z => decide (x = z)) z = false) hno hx6 (decide_eq_false (by omega))), c2⟩
  · refine W.sq (v := .bool false) rfl (r_lss (m := ((k : Nat) : Int)) (n := ((n : Nat) : Int)) rfl (by kernel_rfl) (by kernel_rfl) (decide_eq_false q3)) (by kernel_rfl) rfl rfl ?_
    refine W.sch_end (l' := [.slice A n c, .int .i64 x, undef, undef, .int .i64 0, (U0 5), (U1 6), .int .i64 ((n : Nat) : Int), .int .i64 ((k : Nat) : Int), .bool false, (U0 10), (U0 11), (U0 12), (U0 13), (U0 14), (U0 15), (U0 16), (U0 17), (U0 18)]) (by kernel_rfl) ?_
    refine h5 _ _ ?_
    refine wp_seq_k (fun K11 h11 => ?_)
    refine wp_cond_false (by kernel_rfl) ?_
    refine wp_exit ?_
    refine h2 _ _ ?_
    refine wp_seq_k (fun K12 h12 => ?_)
    refine W.region_quiet [(0, false)] (by kernel_rfl) ?_
    refine W.sq (v := .int .i64 (-1)) rfl (r_assign rfl (by kernel_rfl)) (by kernel_rfl) rfl rfl ?_
    refine W.sch_end (l' := [.slice A n c, .int .i64 x, undef, undef, .int .i64 (-1), (U0 5), (U1 6), .int .i64 ((n : Nat) : Int), .int .i64 ((k : Nat) : Int), .bool false, (U0 10), (U0 11), (U0 12), (U0 13), (U0 14), (U0 15), (U0 16), (U0 17), (U0 18)]) (by kernel_rfl) ?_
    refine h12 _ _ ?_
    refine wp_ret ?_
    try simp only [Exit.then]
    refine ret1 (v := .int .i64 (-1)) rfl (by kernel_rfl) ?_
    exact ⟨by rw [idxI_none (q := (fun z => decide (x = z))) (fun j z hj => hno j z (by omega))], c2⟩

set_option maxRecDepth 100000 in
set_option maxHeartbeats 1000000 in
theorem slContains_any (A : Option Addr) (n c : Nat) (zs : List Int) (x : Int) (w : World) (ha : Rd w 1 A n (intsV zs)) (hn : n ≤ 1048576) :
    Calls Try.prog 131 #[.slice A n c, .int .i64 x] w fun e w' => e = .returned (.bool (zs.contains x)) ∧ Below w.heap.size w w' := by
  have hl := rd_ints_len ha
  go_enter Try.func131, Try.ntmps131
  refine wp_seq_k (fun K1 h1 => ?_)
  refine W.region_quiet [(0, false)] (by kernel_rfl) ?_
  refine W.sq (v := .bool false) rfl (r_assign rfl (by kernel_rfl)) (by kernel_rfl) rfl rfl ?_
  refine W.sch_end (l' := [.slice A n c, .int .i64 x, undef, undef, .bool false, undef, undef, undef, undef]) (by kernel_rfl) ?_
  refine h1 _ _ ?_
  refine wp_seq_k (fun K2 h2 => ?_)
  refine W.region_plain (row := none) [(0, false), (1, false), (2, true), (3, false), (4, false)] (by kernel_rfl) ?_
  have s1 := SG.self w none
  refine W.sq (v := .slice A n c) rfl (r_move rfl (by kernel_rfl)) (by kernel_rfl) rfl rfl ?_
  refine W.sq (v := .int .i64 x) rfl (r_move rfl (by kernel_rfl)) (by kernel_rfl) rfl rfl ?_
  refine W.sc (vs := [.slice A n c, .int .i64 x]) rfl rfl (by kernel_rfl) (by kernel_rfl) (by kernel_rfl) rfl (slIndex_any A n c zs x _ (Rd.kept ha (SG.belowR (Below.refl _ _) s1 (fun kq e => by cases e))) (by omega)) ?_
  rintro e w3 ⟨rfl, b2⟩
  have s4 := SG.of_below s1 b2
  refine ⟨_, rfl, s4, ?_⟩
  by_cases q5 : (idxI (fun z => decide (x = z)) zs : Int) ≥ (0 : Int)
  · refine W.sq (v := .bool true) rfl (r_geq (m := idxI (fun z => decide (x = z)) zs) (n := 0) rfl (by kernel_rfl) (by kernel_rfl) (decide_eq_true q5)) (by kernel_rfl) rfl rfl ?_
    refine W.sq (v := .bool true) rfl (r_assign rfl (by kernel_rfl)) (by kernel_rfl) rfl rfl ?_
    refine W.sch_endU (fun U6 => [.slice A n c, .int .i64 x, undef, undef, .bool true, U6 5, U6 6, U6 7, U6 8]) (by kernel_rfl) (fun U6 => ?_)
    have c7 := (SG.belowR (Below.refl _ _) s4 (fun kq e => by cases e))
    refine h2 _ _ ?_
    refine wp_ret ?_
    try simp only [Exit.then]
    refine ret1 (v := .bool true) rfl (by kernel_rfl) ?_
    exact ⟨by rw [← idxI_has, decide_eq_true q5], c7⟩
  · refine W.sq (v := .bool false) rfl (r_geq (m := idxI (fun z => decide (x = z)) zs) (n := 0) rfl (by kernel_rfl) (by kernel_rfl) (decide_eq_false q5)) (by kernel_rfl) rfl rfl ?_
    refine W.sq (v := .bool false) rfl (r_assign rfl (by kernel_rfl)) (by kernel_rfl) rfl rfl ?_
    refine W.sch_endU (fun U8 => [.slice A n c, .int .i64 x, undef, undef, .bool false, U8 5, U8 6, U8 7, U8 8]) (by kernel_rfl) (fun U8 => ?_)
    have c9 := (SG.belowR (Below.refl _ _) s4 (fun kq e => by cases e))
    refine h2 _ _ ?_
    refine wp_ret ?_
    try simp only [Exit.then]
    refine ret1 (v := .bool false) rfl (by kernel_rfl) ?_
    exact ⟨by rw [← idxI_has, decide_eq_false q5], c9⟩

set_option maxRecDepth 100000 in
set_option maxHeartbeats 1000000 in
theorem isNaN_any (a : Int) (w : World) :
    Calls Try.prog 142 #[.int .i64 a] w fun e w' => e = .returned (.bool false) ∧ w = w' := by
  go_enter Try.func142, Try.ntmps142
  refine wp_seq_k (fun K1 h1 => ?_)
  refine W.region_quiet [(0, false)] (by kernel_rfl) ?_
  refine W.sq (v := .bool false) rfl (r_assign rfl (by kernel_rfl)) (by kernel_rfl) rfl rfl ?_
  refine W.sch_end (l' := [.int .i64 a, undef, .bool false, undef, undef, undef]) (by kernel_rfl) ?_
  refine h1 _ _ ?_
  refine wp_seq_k (fun K2 h2 => ?_)
  refine W.region_quiet [(0, false), (1, false), (2, false), (3, false)] (by kernel_rfl) ?_
  refine W.sq (v := .int .i64 a) rfl (r_move rfl (by kernel_rfl)) (by kernel_rfl) rfl rfl ?_
  refine W.sq (v := .int .i64 a) rfl (r_move rfl (by kernel_rfl)) (by kernel_rfl) rfl rfl ?_
  refine W.sq (v := .bool false) rfl (r_neq (m := a) (n := a) rfl (by kernel_rfl) (by kernel_rfl) (decide_eq_false (fun h => h rfl))) (by kernel_rfl) rfl rfl ?_
  refine W.sq (v := .bool false) rfl (r_assign rfl (by kernel_rfl)) (by kernel_rfl) rfl rfl ?_
  refine W.sch_endU (fun U1 => [.int .i64 a, undef, .bool false, U1 3, U1 4, U1 5]) (by kernel_rfl) (fun U1 => ?_)
  refine h2 _ _ ?_
  refine wp_ret ?_
  try simp only [Exit.then]
  refine ret1 (v := .bool false) rfl (by kernel_rfl) ?_
  exact ⟨rfl, rfl⟩

set_option maxRecDepth 100000 in
set_option maxHeartbeats 1000000 in
theorem cmpI_any (a b : Int) (w : World) :
    Calls Try.prog 132 #[.int .i64 a, .int .i64 b] w fun e w' => e = .returned (.int .i64 (cmpI a b)) ∧ Below w.heap.size w w' := by
  go_enter Try.func132, Try.ntmps132
  refine wp_seq_k (fun K1 h1 => ?_)
  refine W.region_quiet [(0, false)] (by kernel_rfl) ?_
  refine W.sq (v := .int .i64 0) rfl (r_assign rfl (by kernel_rfl)) (by kernel_rfl) rfl rfl ?_
  refine W.sch_end (l' := [.int .i64 a, .int .i64 b, undef, undef, .int .i64 0, undef, undef, undef, undef, undef, undef, undef, undef, undef, undef, undef, undef, undef, undef, undef]) (by kernel_rfl) ?_
  refine h1 _ _ ?_
  refine wp_seq_k (fun K2 h2 => ?_)
  refine W.region_plain (row := none) [(0, false), (1, true), (2, false)] (by kernel_rfl) ?_
  have s1 := SG.self w none
  refine W.sq (v := .int .i64 a) rfl (r_move rfl (by kernel_rfl)) (by kernel_rfl) rfl rfl ?_
  refine W.sc (vs := [.int .i64 a]) rfl rfl (by kernel_rfl) (by kernel_rfl) (by kernel_rfl) rfl (isNaN_any a _) ?_
  rintro e w' ⟨rfl, rfl⟩
  refine ⟨_, rfl, s1, ?_⟩
  refine W.sq (v := .bool false) rfl (r_assign rfl (by kernel_rfl)) (by kernel_rfl) rfl rfl ?_
  refine W.sch_endU (fun U4 => [.int .i64 a, .int .i64 b, undef, undef, .int .i64 0, .bool false, undef, U4 7, U4 8, undef, undef, undef, undef, undef, undef, undef, undef, undef, undef, undef]) (by kernel_rfl) (fun U4 => ?_)
  have c5 := (SG.belowR (Below.refl _ _) s1 (fun kq e => by cases e))
  refine h2 _ _ ?_
  refine wp_seq_k (fun K3 h3 => ?_)
  refine W.region_plain (row := none) [(0, false), (1, true), (2, false)] (by kernel_rfl) ?_
  have s6 := SG.self w none
  refine W.sq (v := .int .i64 b) rfl (r_move rfl (by kernel_rfl)) (by kernel_rfl) rfl rfl ?_
  refine W.sc (vs := [.int .i64 b]) rfl rfl (by kernel_rfl) (by kernel_rfl) (by kernel_rfl) rfl (isNaN_any b _) ?_
  rintro e w' ⟨rfl, rfl⟩
  refine ⟨_, rfl, s6, ?_⟩
  refine W.sq (v := .bool false) rfl (r_assign rfl (by kernel_rfl)) (by kernel_rfl) rfl rfl ?_
  refine W.sch_endU (fun U9 => [.int .i64 a, .int .i64 b, undef, undef, .int .i64 0, .bool false, .bool false, (U4 7), (U4 8), U9 9, U9 10, undef, undef, undef, undef, undef, undef, undef, undef, undef]) (by kernel_rfl) (fun U9 => ?_)
  have c10 := (SG.belowR c5 s6 (fun kq e => by cases e))
  refine h3 _ _ ?_
  refine wp_seq_k (fun K4 h4 => ?_)
  refine wp_seq_k (fun K5 h5 => ?_)
  refine W.region_quiet [(0, false)] (by kernel_rfl) ?_
  refine W.sq (v := .bool false) rfl (r_move rfl (by kernel_rfl)) (by kernel_rfl) rfl rfl ?_
  refine W.sch_end (l' := [.int .i64 a, .int .i64 b, undef, undef, .int .i64 0, .bool false, .bool false, (U4 7), (U4 8), (U9 9), (U9 10), .bool false, undef, undef, undef, undef, undef, undef, undef, undef]) (by kernel_rfl) ?_
  refine h5 _ _ ?_
  refine wp_cond_false (by kernel_rfl) ?_
  refine wp_skip ?_
  refine h4 _ _ ?_
  refine wp_seq_k (fun K6 h6 => ?_)
  refine wp_seq_k (fun K7 h7 => ?_)
  refine W.region_quiet [(0, false)] (by kernel_rfl) ?_
  refine W.sq (v := .bool false) rfl (r_move rfl (by kernel_rfl)) (by kernel_rfl) rfl rfl ?_
  refine W.sch_end (l' := [.int .i64 a, .int .i64 b, undef, undef, .int .i64 0, .bool false, .bool false, (U4 7), (U4 8), (U9 9), (U9 10), .bool false, undef, .bool false, undef, undef, undef, undef, undef, undef]) (by kernel_rfl) ?_
  refine h7 _ _ ?_
  refine wp_cond_false (by kernel_rfl) ?_
  refine wp_skip ?_
  refine h6 _ _ ?_
  refine wp_seq_k (fun K8 h8 => ?_)
  refine wp_seq_k (fun K9 h9 => ?_)
  refine W.region_quiet [(0, false), (1, false), (2, false)] (by kernel_rfl) ?_
  refine W.sq (v := .int .i64 a) rfl (r_move rfl (by kernel_rfl)) (by kernel_rfl) rfl rfl ?_
  refine W.sq (v := .int .i64 b) rfl (r_move rfl (by kernel_rfl)) (by kernel_rfl) rfl rfl ?_
  by_cases q11 : (a : Int) < (b : Int)
  · refine W.sq (v := .bool true) rfl (r_lss (m := a) (n := b) rfl (by kernel_rfl) (by kernel_rfl) (decide_eq_true q11)) (by kernel_rfl) rfl rfl ?_
    refine W.sch_endU (fun U12 => [.int .i64 a, .int .i64 b, undef, undef, .int .i64 0, .bool false, .bool false, (U4 7), (U4 8), (U9 9), (U9 10), .bool false, undef, .bool false, U12 14, U12 15, .bool true, undef, undef, undef]) (by kernel_rfl) (fun U12 => ?_)
    refine h9 _ _ ?_
    refine wp_cond_true (by kernel_rfl) ?_
    refine wp_seq_k (fun K10 h10 => ?_)
    refine W.region_quiet [(0, false)] (by kernel_rfl) ?_
    refine W.sq (v := .int .i64 (-1)) rfl (r_assign rfl (by kernel_rfl)) (by kernel_rfl) rfl rfl ?_
    refine W.sch_end (l' := [.int .i64 a, .int .i64 b, undef, undef, .int .i64 (-1), .bool false, .bool false, (U4 7), (U4 8), (U9 9), (U9 10), .bool false, undef, .bool false, (U12 14), (U12 15), .bool true, undef, undef, undef]) (by kernel_rfl) ?_
    refine h10 _ _ ?_
    refine wp_ret ?_
    try simp only [Exit.then]
    refine ret1 (v := .int .i64 (-1)) rfl (by kernel_rfl) ?_
    exact ⟨by unfold cmpI; rw [if_pos (by omega)], c10⟩
  · refine W.sq (v := .bool false) rfl (r_lss (m := a) (n := b) rfl (by kernel_rfl) (by kernel_rfl) (decide_eq_false q11)) (by kernel_rfl) rfl rfl ?_
    refine W.sch_endU (fun U13 => [.int .i64 a, .int .i64 b, undef, undef, .int .i64 0, .bool false, .bool false, (U4 7), (U4 8), (U9 9), (U9 10), .bool false, undef, .bool false, U13 14, U13 15, .bool false, undef, undef, undef]) (by kernel_rfl) (fun U13 => ?_)
    refine h9 _ _ ?_
    refine wp_cond_false (by kernel_rfl) ?_
    refine wp_skip ?_
    refine h8 _ _ ?_
    refine wp_seq_k (fun K11 h11 => ?_)
    refine wp_seq_k (fun K12 h12 => ?_)
    refine W.region_quiet [(0, false), (1, false), (2, false)] (by kernel_rfl) ?_
    refine W.sq (v := .int .i64 a) rfl (r_move rfl (by kernel_rfl)) (by kernel_rfl) rfl rfl ?_
    refine W.sq (v := .int .i64 b) rfl (r_move rfl (by kernel_rfl)) (by kernel_rfl) rfl rfl ?_
    by_cases q14 : (a : Int) > (b : Int)
    · refine W.sq (v := .bool true) rfl (r_gtr (m := a) (n := b) rfl (by kernel_rfl) (by kernel_rfl) (decide_eq_true q14)) (by kernel_rfl) rfl rfl ?_
      refine W.sch_endU (fun U15 => [.int .i64 a, .int .i64 b, undef, undef, .int .i64 0, .bool false, .bool false, (U4 7), (U4 8), (U9 9), (U9 10), .bool false, undef, .bool false, (U13 14), (U13 15), .bool false, U15 17, U15 18, .bool true]) (by kernel_rfl) (fun U15 => ?_)
      refine h12 _ _ ?_
      refine wp_cond_true (by kernel_rfl) ?_
      refine wp_seq_k (fun K13 h13 => ?_)
      refine W.region_quiet [(0, false)] (by kernel_rfl) ?_
      refine W.sq (v := .int .i64 1) rfl (r_assign rfl (by kernel_rfl)) (by kernel_rfl) rfl rfl ?_
      refine W.sch_end (l' := [.int .i64 a, .int .i64 b, undef, undef, .int .i64 1, .bool false, .bool false, (U4 7), (U4 8), (U9 9), (U9 10), .bool false, undef, .bool false, (U13 14), (U13 15), .bool false, (U15 17), (U15 18), .bool true]) (by kernel_rfl) ?_
      refine h13 _ _ ?_
      refine wp_ret ?_
      try simp only [Exit.then]
      refine ret1 (v := .int .i64 1) rfl (by kernel_rfl) ?_
      exact ⟨by unfold cmpI; rw [if_neg (by omega), if_pos (by omega)], c10⟩
    · refine W.sq (v := .bool false) rfl (r_gtr (m := a) (n := b) rfl (by kernel_rfl) (by kernel_rfl) (decide_eq_false q14)) (by kernel_rfl) rfl rfl ?_
      refine W.sch_endU (fun U16 => [.int .i64 a, .int .i64 b, undef, undef, .int .i64 0, .bool false, .bool false, (U4 7), (U4 8), (U9 9), (U9 10), .bool false, undef, .bool false, (U13 14), (U13 15), .bool false, U16 17, U16 18, .bool false]) (by kernel_rfl) (fun U16 => ?_)
      refine h12 _ _ ?_
      refine wp_cond_false (by kernel_rfl) ?_
      refine wp_skip ?_
      refine h11 _ _ ?_
      refine wp_seq_k (fun K14 h14 => ?_)
      refine W.region_quiet [(0, false)] (by kernel_rfl) ?_
      refine W.sq (v := .int .i64 0) rfl (r_assign rfl (by kernel_rfl)) (by kernel_rfl) rfl rfl ?_
      refine W.sch_end (l' := [.int .i64 a, .int .i64 b, undef, undef, .int .i64 0, .bool false, .bool false, (U4 7), (U4 8), (U9 9), (U9 10), .bool false, undef, .bool false, (U13 14), (U13 15), .bool false, (U16 17), (U16 18), .bool false]) (by kernel_rfl) ?_
      refine h14 _ _ ?_
      refine wp_ret ?_
      try simp only [Exit.then]
      refine ret1 (v := .int .i64 0) rfl (by kernel_rfl) ?_
      exact ⟨by unfold cmpI; rw [if_neg (by omega), if_neg (by omega)], c10⟩

set_option maxRecDepth 100000 in
set_option maxHeartbeats 1000000 in
theorem slCompare_any (A : Option Addr) (n c : Nat) (zs : List Int) (A2 : Option Addr) (n2 c2 : Nat) (ys : List Int) (w : World) (ha : Rd w 1 A n (intsV zs)) (hn : n ≤ 1048576) (hb : Rd w 1 A2 n2 (intsV ys)) (hn2 : n2 ≤ 1048576) :
    Calls Try.prog 105 #[.slice A n c, .slice A2 n2 c2] w fun e w' => e = .returned (.int .i64 (cmpL zs ys)) ∧ Below w.heap.size w w' := by
  have hl := rd_ints_len ha
  have hl2 := rd_ints_len hb
  go_enter Try.func105, Try.ntmps105
  refine wp_seq_k (fun K1 h1 => ?_)
  refine W.region_quiet [(0, false)] (by kernel_rfl) ?_
  refine W.sq (v := .int .i64 0) rfl (r_assign rfl (by kernel_rfl)) (by kernel_rfl) rfl rfl ?_
  refine W.sch_end (l' := [.slice A n c, .slice A2 n2 c2, undef, undef, .int .i64 0, undef, undef, undef, undef, undef, undef, undef, undef, undef, undef, undef, undef, undef, undef, undef, undef, undef, undef, undef, undef, undef, undef, undef, undef, undef, undef, undef, undef, undef, undef, undef]) (by kernel_rfl) ?_
  refine h1 _ _ ?_
  refine wp_seq_k (fun K2 h2 => ?_)
  refine wp_seq_k (fun K3 h3 => ?_)
  refine W.region_quiet [(0, false), (1, false), (2, false)] (by kernel_rfl) ?_
  refine W.sq (v := .slice A n c) rfl (r_move rfl (by kernel_rfl)) (by kernel_rfl) rfl rfl ?_
  refine W.sq (v := .int .i64 ((n : Nat) : Int)) rfl (r_len (A := A) (n := n) (c := c) rfl (by kernel_rfl) (by kernel_rfl)) (by kernel_rfl) rfl rfl ?_
  refine W.sq (v := .int .i64 0) rfl (r_move rfl (by kernel_rfl)) (by kernel_rfl) rfl rfl ?_
  refine W.sch_end (l' := [.slice A n c, .slice A2 n2 c2, undef, undef, .int .i64 0, undef, undef, undef, undef, .slice A n c, .int .i64 ((n : Nat) : Int), .int .i64 0, undef, undef, undef, undef, undef, undef, undef, undef, undef, undef, undef, undef, undef, undef, undef, undef, undef, undef, undef, undef, undef, undef, undef, undef]) (by kernel_rfl) ?_
  refine h3 _ _ ?_
  refine wp_block ?_
  refine loopK (fun am0 aa0 wl0 => ∃ (k : Nat) (U0 : Nat → Value), aa0 = ⟨[.slice A n c, .slice A2 n2 c2, undef, undef, .int .i64 0, U0 5, U0 6, U0 7, U0 8, .slice A n c, .int .i64 ((n : Nat) : Int), .int .i64 ((k : Nat) : Int), U0 12, U0 13, U0 14, U0 15, U0 16, U0 17, U0 18, U0 19, U0 20, U0 21, U0 22, U0 23, U0 24, U0 25, U0 26, U0 27, U0 28, U0 29, U0 30, undef, undef, undef, undef, undef].toArray, []⟩ ∧ (am0 = n - k) ∧ (k ≤ n) ∧ (k ≤ n2) ∧ (∀ (j : Nat) x y, j < k → zs[j]? = some x → ys[j]? = some y → x = y) ∧ (Below w.heap.size w wl0)) (n - 0) ?_ ?_
  · exact ⟨0, (fun iU9 => [.slice A n c, .slice A2 n2 c2, undef, undef, .int .i64 0, undef, undef, undef, undef, .slice A n c, .int .i64 ((n : Nat) : Int), .int .i64 0, undef, undef, undef, undef, undef, undef, undef, undef, undef, undef, undef, undef, undef, undef, undef, undef, undef, undef, undef, undef, undef, undef, undef, undef].getD iU9 undef), (by kernel_rfl), rfl, (Nat.zero_le _), (Nat.zero_le _), (fun j x y hj => absurd hj (by omega)), (Below.refl _ _)⟩
  rintro am0 aa0 wl0 K4 h4 ⟨k, U0, rfl, rfl, hk, hk2, heq, c1⟩
  refine wp_seq_k (fun K5 h5 => ?_)
  refine W.region_quiet [(0, false)] (by kernel_rfl) ?_
  by_cases q2 : (((k : Nat) : Int) : Int) < (((n : Nat) : Int) : Int)
  · refine W.sq (v := .bool true) rfl (r_lss (m := ((k : Nat) : Int)) (n := ((n : Nat) : Int)) rfl (by kernel_rfl) (by kernel_rfl) (decide_eq_true q2)) (by kernel_rfl) rfl rfl ?_
    refine W.sch_end (l' := [.slice A n c, .slice A2 n2 c2, undef, undef, .int .i64 0, (U0 5), (U0 6), (U0 7), (U0 8), .slice A n c, .int .i64 ((n : Nat) : Int), .int .i64 ((k : Nat) : Int), .bool true, (U0 13), (U0 14), (U0 15), (U0 16), (U0 17), (U0 18), (U0 19), (U0 20), (U0 21), (U0 22), (U0 23), (U0 24), (U0 25), (U0 26), (U0 27), (U0 28), (U0 29), (U0 30), undef, undef, undef, undef, undef]) (by kernel_rfl) ?_
    refine h5 _ _ ?_
    refine wp_seq_k (fun K6 h6 => ?_)
    refine wp_cond_true (by kernel_rfl) ?_
    refine wp_skip ?_
    refine h6 _ _ ?_
    refine wp_seq_k (fun K7 h7 => ?_)
    refine wp_block ?_
    refine wp_seq_k (fun K8 h8 => ?_)
    refine W.region_quiet [(0, false), (1, false), (2, false), (3, false), (4, false)] (by kernel_rfl) ?_
    refine W.sq (v := .int .i64 ((k : Nat) : Int)) rfl (r_move rfl (by kernel_rfl)) (by kernel_rfl) rfl rfl ?_
    obtain ⟨x3, hx4⟩ := get_of (zs := zs) (k := k) (by have := hl; omega)
    obtain ⟨b5, o6, hA7, hb8, hc9⟩ := Rd.elInt ha hx4
    refine W.sq (v := .pointer (some ⟨b5, o6 + k, none⟩)) rfl (r_idx1 (n := n) (c := c) (k := k) rfl (by kernel_rfl) hA7 (by kernel_rfl) (by kernel_rfl) (by have := hl; omega)) (by kernel_rfl) rfl rfl ?_
    refine W.sq (v := .int .i64 x3) rfl (r_load rfl (by kernel_rfl) (by kernel_rfl) (eqS (later c1 hc9))) (by kernel_rfl) rfl rfl ?_
    refine W.sq (v := .int .i64 ((k : Nat) : Int)) rfl (r_assign rfl (by kernel_rfl)) (by kernel_rfl) rfl rfl ?_
    refine W.sq (v := .int .i64 x3) rfl (r_assign rfl (by kernel_rfl)) (by kernel_rfl) rfl rfl ?_
    refine W.sch_endU (fun U10 => [.slice A n c, .slice A2 n2 c2, undef, undef, .int .i64 0, .int .i64 ((k : Nat) : Int), .int .i64 x3, (U0 7), (U0 8), .slice A n c, .int .i64 ((n : Nat) : Int), .int .i64 ((k : Nat) : Int), .bool true, U10 13, U10 14, U10 15, (U0 16), (U0 17), (U0 18), (U0 19), (U0 20), (U0 21), (U0 22), (U0 23), (U0 24), (U0 25), (U0 26), (U0 27), (U0 28), (U0 29), (U0 30), undef, undef, undef, undef, undef]) (by kernel_rfl) (fun U10 => ?_)
    refine h8 _ _ ?_
    refine wp_seq_k (fun K9 h9 => ?_)
    refine wp_seq_k (fun K10 h10 => ?_)
    refine W.region_quiet [(0, false), (1, false), (2, false), (3, false)] (by kernel_rfl) ?_
    refine W.sq (v := .int .i64 ((k : Nat) : Int)) rfl (r_move rfl (by kernel_rfl)) (by kernel_rfl) rfl rfl ?_
    refine W.sq (v := .slice A2 n2 c2) rfl (r_move rfl (by kernel_rfl)) (by kernel_rfl) rfl rfl ?_
    refine W.sq (v := .int .i64 ((n2 : Nat) : Int)) rfl (r_len (A := A2) (n := n2) (c := c2) rfl (by kernel_rfl) (by kernel_rfl)) (by kernel_rfl) rfl rfl ?_
    by_cases q11 : (((k : Nat) : Int) : Int) ≥ (((n2 : Nat) : Int) : Int)
    · refine W.sq (v := .bool true) rfl (r_geq (m := ((k : Nat) : Int)) (n := ((n2 : Nat) : Int)) rfl (by kernel_rfl) (by kernel_rfl) (decide_eq_true q11)) (by kernel_rfl) rfl rfl ?_
      refine W.sch_endU (fun U12 => [.slice A n c, .slice A2 n2 c2, undef, undef, .int .i64 0, .int .i64 ((k : Nat) : Int), .int .i64 x3, (U0 7), (U0 8), .slice A n c, .int .i64 ((n : Nat) : Int), .int .i64 ((k : Nat) : Int), .bool true, (U10 13), (U10 14), (U10 15), U12 16, U12 17, U12 18, .bool true, (U0 20), (U0 21), (U0 22), (U0 23), (U0 24), (U0 25), (U0 26), (U0 27), (U0 28), (U0 29), (U0 30), undef, undef, undef, undef, undef]) (by kernel_rfl) (fun U12 => ?_)
      refine h10 _ _ ?_
      refine wp_cond_true (by kernel_rfl) ?_
      refine wp_seq_k (fun K11 h11 => ?_)
      refine W.region_quiet [(0, false)] (by kernel_rfl) ?_
      refine W.sq (v := .int .i64 1) rfl (r_assign rfl (by kernel_rfl)) (by kernel_rfl) rfl rfl ?_
      refine W.sch_end (l' := [.slice A n c, .slice A2 n2 c2, undef, undef, .int .i64 1, .int .i64 ((k : Nat) : Int), .int .i64 x3, (U0 7), (U0 8), .slice A n c, .int .i64 ((n : Nat) : Int), .int .i64 ((k : Nat) : Int), .bool true, (U10 13), (U10 14), (U10 15), (U12 16), (U12 17), (U12 18), .bool true, (U0 20), (U0 21), (U0 22), (U0 23), (U0 24), (U0 25), (U0 26), (U0 27), (U0 28), (U0 29), (U0 30), undef, undef, undef, undef, undef]) (by kernel_rfl) ?_
      refine h11 _ _ ?_
      refine wp_ret ?_
      try simp only [Exit.then, Exit.inBlock]
      refine ret1 (v := .int .i64 1) rfl (by kernel_rfl) ?_
      exact ⟨by rw [cmpL_end heq (by omega) (by omega) (by omega), if_neg (by omega), if_pos (by omega)], c1⟩
    · refine W.sq (v := .bool false) rfl (r_geq (m := ((k : Nat) : Int)) (n := ((n2 : Nat) : Int)) rfl (by kernel_rfl) (by kernel_rfl) (decide_eq_false q11)) (by kernel_rfl) rfl rfl ?_
      refine W.sch_endU (fun U13 => [.slice A n c, .slice A2 n2 c2, undef, undef, .int .i64 0, .int .i64 ((k : Nat) : Int), .int .i64 x3, (U0 7), (U0 8), .slice A n c, .int .i64 ((n : Nat) : Int), .int .i64 ((k : Nat) : Int), .bool true, (U10 13), (U10 14), (U10 15), U13 16, U13 17, U13 18, .bool false, (U0 20), (U0 21), (U0 22), (U0 23), (U0 24), (U0 25), (U0 26), (U0 27), (U0 28), (U0 29), (U0 30), undef, undef, undef, undef, undef]) (by kernel_rfl) (fun U13 => ?_)
      refine h10 _ _ ?_
      refine wp_cond_false (by kernel_rfl) ?_
      refine wp_skip ?_
      refine h9 _ _ ?_
      refine wp_seq_k (fun K12 h12 => ?_)
      refine W.region_quiet [(0, false), (1, false), (2, false), (3, false), (4, false)] (by kernel_rfl) ?_
      refine W.sq (v := .slice A2 n2 c2) rfl (r_move rfl (by kernel_rfl)) (by kernel_rfl) rfl rfl ?_
      refine W.sq (v := .int .i64 ((k : Nat) : Int)) rfl (r_move rfl (by kernel_rfl)) (by kernel_rfl) rfl rfl ?_
      obtain ⟨x14, hx15⟩ := get_of (zs := ys) (k := k) (by have := hl2; omega)
      obtain ⟨b16, o17, hA18, hb19, hc20⟩ := Rd.elInt hb hx15
      refine W.sq (v := .pointer (some ⟨b16, o17 + k, none⟩)) rfl (r_idx1 (n := n2) (c := c2) (k := k) rfl (by kernel_rfl) hA18 (by kernel_rfl) (by kernel_rfl) (by have := hl2; omega)) (by kernel_rfl) rfl rfl ?_
      refine W.sq (v := .int .i64 x14) rfl (r_load rfl (by kernel_rfl) (by kernel_rfl) (eqS (later c1 hc20))) (by kernel_rfl) rfl rfl ?_
      refine W.sq (v := .int .i64 x14) rfl (r_assign rfl (by kernel_rfl)) (by kernel_rfl) rfl rfl ?_
      refine W.sch_endU (fun U21 => [.slice A n c, .slice A2 n2 c2, undef, undef, .int .i64 0, .int .i64 ((k : Nat) : Int), .int .i64 x3, .int .i64 x14, (U0 8), .slice A n c, .int .i64 ((n : Nat) : Int), .int .i64 ((k : Nat) : Int), .bool true, (U10 13), (U10 14), (U10 15), (U13 16), (U13 17), (U13 18), .bool false, U21 20, U21 21, U21 22, U21 23, (U0 24), (U0 25), (U0 26), (U0 27), (U0 28), (U0 29), (U0 30), undef, undef, undef, undef, undef]) (by kernel_rfl) (fun U21 => ?_)
      refine h12 _ _ ?_
      refine wp_seq_k (fun K13 h13 => ?_)
      refine W.region_plain (row := none) [(0, false), (1, false), (2, true), (3, false)] (by kernel_rfl) ?_
      have s22 := SG.self wl0 none
      refine W.sq (v := .int .i64 x3) rfl (r_move rfl (by kernel_rfl)) (by kernel_rfl) rfl rfl ?_
      refine W.sq (v := .int .i64 x14) rfl (r_move rfl (by kernel_rfl)) (by kernel_rfl) rfl rfl ?_
      refine W.sc (vs := [.int .i64 x3, .int .i64 x14]) rfl rfl (by kernel_rfl) (by kernel_rfl) (by kernel_rfl) rfl (cmpI_any x3 x14 _) ?_
      rintro e w24 ⟨rfl, b23⟩
      have s25 := SG.of_below s22 b23
      refine ⟨_, rfl, s25, ?_⟩
      refine W.sq (v := .int .i64 (cmpI x3 x14)) rfl (r_assign rfl (by kernel_rfl)) (by kernel_rfl) rfl rfl ?_
      refine W.sch_endU (fun U26 => [.slice A n c, .slice A2 n2 c2, undef, undef, .int .i64 0, .int .i64 ((k : Nat) : Int), .int .i64 x3, .int .i64 x14, .int .i64 (cmpI x3 x14), .slice A n c, .int .i64 ((n : Nat) : Int), .int .i64 ((k : Nat) : Int), .bool true, (U10 13), (U10 14), (U10 15), (U13 16), (U13 17), (U13 18), .bool false, (U21 20), (U21 21), (U21 22), (U21 23), U26 24, U26 25, U26 26, (U0 27), (U0 28), (U0 29), (U0 30), undef, undef, undef, undef, undef]) (by kernel_rfl) (fun U26 => ?_)
      have c27 := (SG.belowR c1 s25 (fun kq e => by cases e))
      refine h13 _ _ ?_
      refine wp_seq_k (fun K14 h14 => ?_)
      refine W.region_quiet [(0, false), (1, false)] (by kernel_rfl) ?_
      refine W.sq (v := .int .i64 (cmpI x3 x14)) rfl (r_move rfl (by kernel_rfl)) (by kernel_rfl) rfl rfl ?_
      by_cases q28 : (cmpI x3 x14 : Int) ≠ (0 : Int)
      · refine W.sq (v := .bool true) rfl (r_neq (m := cmpI x3 x14) (n := 0) rfl (by kernel_rfl) (by kernel_rfl) (decide_eq_true q28)) (by kernel_rfl) rfl rfl ?_
        refine W.sch_endU (fun U29 => [.slice A n c, .slice A2 n2 c2, undef, undef, .int .i64 0, .int .i64 ((k : Nat) : Int), .int .i64 x3, .int .i64 x14, .int .i64 (cmpI x3 x14), .slice A n c, .int .i64 ((n : Nat) : Int), .int .i64 ((k : Nat) : Int), .bool true, (U10 13), (U10 14), (U10 15), (U13 16), (U13 17), (U13 18), .bool false, (U21 20), (U21 21), (U21 22), (U21 23), (U26 24), (U26 25), (U26 26), U29 27, .bool true, (U0 29), (U0 30), undef, undef, undef, undef, undef]) (by kernel_rfl) (fun U29 => ?_)
        refine h14 _ _ ?_
        refine wp_cond_true (by kernel_rfl) ?_
        refine wp_seq_k (fun K15 h15 => ?_)
        refine W.region_quiet [(0, false), (1, false)] (by kernel_rfl) ?_
        refine W.sq (v := .int .i64 (cmpI x3 x14)) rfl (r_move rfl (by kernel_rfl)) (by kernel_rfl) rfl rfl ?_
        refine W.sq (v := .int .i64 (cmpI x3 x14)) rfl (r_assign rfl (by kernel_rfl)) (by kernel_rfl) rfl rfl ?_
        refine W.sch_endU (fun U30 => [.slice A n c, .slice A2 n2 c2, undef, undef, .int .i64 (cmpI x3 x14), .int .i64 ((k : Nat) : Int), .int .i64 x3, .int .i64 x14, .int .i64 (cmpI x3 x14), .slice A n c, .int .i64 ((n : Nat) : Int), .int .i64 ((k : Nat) : Int), .bool true, (U10 13), (U10 14), (U10 15), (U13 16), (U13 17), (U13 18), .bool false, (U21 20), (U21 21), (U21 22), (U21 23), (U26 24), (U26 25), (U26 26), (U29 27), .bool true, U30 29, (U0 30), undef, undef, undef, undef, undef]) (by kernel_rfl) (fun U30 => ?_)
        refine h15 _ _ ?_
        refine wp_ret ?_
        try simp only [Exit.then, Exit.inBlock]
        refine ret1 (v := .int .i64 (cmpI x3 x14)) rfl (by kernel_rfl) ?_
        exact ⟨by rw [cmpL_ne heq hx4 hx15 (by omega)], c27⟩
      · refine W.sq (v := .bool false) rfl (r_neq (m := cmpI x3 x14) (n := 0) rfl (by kernel_rfl) (by kernel_rfl) (decide_eq_false q28)) (by kernel_rfl) rfl rfl ?_
        refine W.sch_endU (fun U31 => [.slice A n c, .slice A2 n2 c2, undef, undef, .int .i64 0, .int .i64 ((k : Nat) : Int), .int .i64 x3, .int .i64 x14, .int .i64 (cmpI x3 x14), .slice A n c, .int .i64 ((n : Nat) : Int), .int .i64 ((k : Nat) : Int), .bool true, (U10 13), (U10 14), (U10 15), (U13 16), (U13 17), (U13 18), .bool false, (U21 20), (U21 21), (U21 22), (U21 23), (U26 24), (U26 25), (U26 26), U31 27, .bool false, (U0 29), (U0 30), undef, undef, undef, undef, undef]) (by kernel_rfl) (fun U31 => ?_)
        refine h14 _ _ ?_
        refine wp_cond_false (by kernel_rfl) ?_
        refine wp_skip ?_
        refine h7 _ _ ?_
        refine W.region_quiet [(0, false), (1, false)] (by kernel_rfl) ?_
        refine W.sq (v := .int .i64 ((k + 1 : Nat) : Int)) rfl (r_add (m := ((k : Nat) : Int)) (n := 1) (z := ((k + 1 : Nat) : Int)) rfl (by kernel_rfl) (by kernel_rfl) (by omega) (by omega)) (by kernel_rfl) rfl rfl ?_
        refine W.sq (v := .int .i64 ((k + 1 : Nat) : Int)) rfl (r_move rfl (by kernel_rfl)) (by kernel_rfl) rfl rfl ?_
        refine W.sch_endU (fun U32 => [.slice A n c, .slice A2 n2 c2, undef, undef, .int .i64 0, .int .i64 ((k : Nat) : Int), .int .i64 x3, .int .i64 x14, .int .i64 (cmpI x3 x14), .slice A n c, .int .i64 ((n : Nat) : Int), .int .i64 ((k + 1 : Nat) : Int), .bool true, (U10 13), (U10 14), (U10 15), (U13 16), (U13 17), (U13 18), .bool false, (U21 20), (U21 21), (U21 22), (U21 23), (U26 24), (U26 25), (U26 26), (U31 27), .bool false, (U0 29), U32 30, undef, undef, undef, undef, undef]) (by kernel_rfl) (fun U32 => ?_)
        exact h4 _ _ _ (by omega : (n - (k + 1)) < _) ⟨k + 1, (fun iU9 => [.slice A n c, .slice A2 n2 c2, undef, undef, .int .i64 0, .int .i64 ((k : Nat) : Int), .int .i64 x3, .int .i64 x14, .int .i64 (cmpI x3 x14), .slice A n c, .int .i64 ((n : Nat) : Int), .int .i64 ((k + 1 : Nat) : Int), .bool true, (U10 13), (U10 14), (U10 15), (U13 16), (U13 17), (U13 18), .bool false, (U21 20), (U21 21), (U21 22), (U21 23), (U26 24), (U26 25), (U26 26), (U31 27), .bool false, (U0 29), (U32 30), undef, undef, undef, undef, undef].getD iU9 undef), (by kernel_rfl), rfl, (by omega), (by omega), (upto2 heq hx4 hx15 (by omega)), c27⟩
  · refine W.sq (v := .bool false) rfl (r_lss (m := ((k : Nat) : Int)) (n := ((n : Nat) : Int)) rfl (by kernel_rfl) (by kernel_rfl) (decide_eq_false q2)) (by kernel_rfl) rfl rfl ?_
    refine W.sch_end (l' := [.slice A n c, .slice A2 n2 c2, undef, undef, .int .i64 0, (U0 5), (U0 6), (U0 7), (U0 8), .slice A n c, .int .i64 ((n : Nat) : Int), .int .i64 ((k : Nat) : Int), .bool false, (U0 13), (U0 14), (U0 15), (U0 16), (U0 17), (U0 18), (U0 19), (U0 20), (U0 21), (U0 22), (U0 23), (U0 24), (U0 25), (U0 26), (U0 27), (U0 28), (U0 29), (U0 30), undef, undef, undef, undef, undef]) (by kernel_rfl) ?_
    refine h5 _ _ ?_
    refine wp_seq_k (fun K16 h16 => ?_)
    refine wp_cond_false (by kernel_rfl) ?_
    refine wp_exit ?_
    refine h2 _ _ ?_
    refine wp_seq_k (fun K17 h17 => ?_)
    refine wp_seq_k (fun K18 h18 => ?_)
    refine W.region_quiet [(0, false), (1, false), (2, false), (3, false), (4, false)] (by kernel_rfl) ?_
    refine W.sq (v := .slice A n c) rfl (r_move rfl (by kernel_rfl)) (by kernel_rfl) rfl rfl ?_
    refine W.sq (v := .int .i64 ((n : Nat) : Int)) rfl (r_len (A := A) (n := n) (c := c) rfl (by kernel_rfl) (by kernel_rfl)) (by kernel_rfl) rfl rfl ?_
    refine W.sq (v := .slice A2 n2 c2) rfl (r_move rfl (by kernel_rfl)) (by kernel_rfl) rfl rfl ?_
    refine W.sq (v := .int .i64 ((n2 : Nat) : Int)) rfl (r_len (A := A2) (n := n2) (c := c2) rfl (by kernel_rfl) (by kernel_rfl)) (by kernel_rfl) rfl rfl ?_
    by_cases q33 : (((n : Nat) : Int) : Int) < (((n2 : Nat) : Int) : Int)
    · refine W.sq (v := .bool true) rfl (r_lss (m := ((n : Nat) : Int)) (n := ((n2 : Nat) : Int)) rfl (by kernel_rfl) (by kernel_rfl) (decide_eq_true q33)) (by kernel_rfl) rfl rfl ?_
      refine W.sch_endU (fun U34 => [.slice A n c, .slice A2 n2 c2, undef, undef, .int .i64 0, (U0 5), (U0 6), (U0 7), (U0 8), .slice A n c, .int .i64 ((n : Nat) : Int), .int .i64 ((k : Nat) : Int), .bool false, (U0 13), (U0 14), (U0 15), (U0 16), (U0 17), (U0 18), (U0 19), (U0 20), (U0 21), (U0 22), (U0 23), (U0 24), (U0 25), (U0 26), (U0 27), (U0 28), (U0 29), (U0 30), U34 31, U34 32, U34 33, U34 34, .bool true]) (by kernel_rfl) (fun U34 => ?_)
      refine h18 _ _ ?_
      refine wp_cond_true (by kernel_rfl) ?_
      refine wp_seq_k (fun K19 h19 => ?_)
      refine W.region_quiet [(0, false)] (by kernel_rfl) ?_
      refine W.sq (v := .int .i64 (-1)) rfl (r_assign rfl (by kernel_rfl)) (by kernel_rfl) rfl rfl ?_
      refine W.sch_end (l' := [.slice A n c, .slice A2 n2 c2, undef, undef, .int .i64 (-1), (U0 5), (U0 6), (U0 7), (U0 8), .slice A n c, .int .i64 ((n : Nat) : Int), .int .i64 ((k : Nat) : Int), .bool false, (U0 13), (U0 14), (U0 15), (U0 16), (U0 17), (U0 18), (U0 19), (U0 20), (U0 21), (U0 22), (U0 23), (U0 24), (U0 25), (U0 26), (U0 27), (U0 28), (U0 29), (U0 30), (U34 31), (U34 32), (U34 33), (U34 34), .bool true]) (by kernel_rfl) ?_
      refine h19 _ _ ?_
      refine wp_ret ?_
      try simp only [Exit.then]
      refine ret1 (v := .int .i64 (-1)) rfl (by kernel_rfl) ?_
      exact ⟨by rw [cmpL_end heq (by omega) (by omega) (by omega), if_pos (by omega)], c1⟩
    · refine W.sq (v := .bool false) rfl (r_lss (m := ((n : Nat) : Int)) (n := ((n2 : Nat) : Int)) rfl (by kernel_rfl) (by kernel_rfl) (decide_eq_false q33)) (by kernel_rfl) rfl rfl ?_
      refine W.sch_endU (fun U35 => [.slice A n c, .slice A2 n2 c2, undef, undef, .int .i64 0, (U0 5), (U0 6), (U0 7), (U0 8), .slice A n c, .int .i64 ((n : Nat) : Int), .int .i64 ((k : Nat) : Int), .bool false, (U0 13), (U0 14), (U0 15), (U0 16), (U0 17), (U0 18), (U0 19), (U0 20), (U0 21), (U0 22), (U0 23), (U0 24), (U0 25), (U0 26), (U0 27), (U0 28), (U0 29), (U0 30), U35 31, U35 32, U35 33, U35 34, .bool false]) (by kernel_rfl) (fun U35 => ?_)
      refine h18 _ _ ?_
      refine wp_cond_false (by kernel_rfl) ?_
      refine wp_skip ?_
      refine h17 _ _ ?_
      refine wp_seq_k (fun K20 h20 => ?_)
      refine W.region_quiet [(0, false)] (by kernel_rfl) ?_
      refine W.sq (v := .int .i64 0) rfl (r_assign rfl (by kernel_rfl)) (by kernel_rfl) rfl rfl ?_
      refine W.sch_end (l' := [.slice A n c, .slice A2 n2 c2, undef, undef, .int .i64 0, (U0 5), (U0 6), (U0 7), (U0 8), .slice A n c, .int .i64 ((n : Nat) : Int), .int .i64 ((k : Nat) : Int), .bool false, (U0 13), (U0 14), (U0 15), (U0 16), (U0 17), (U0 18), (U0 19), (U0 20), (U0 21), (U0 22), (U0 23), (U0 24), (U0 25), (U0 26), (U0 27), (U0 28), (U0 29), (U0 30), (U35 31), (U35 32), (U35 33), (U35 34), .bool false]) (by kernel_rfl) ?_
      refine h20 _ _ ?_
      refine wp_ret ?_
      try simp only [Exit.then]
      refine ret1 (v := .int .i64 0) rfl (by kernel_rfl) ?_
      exact ⟨by rw [cmpL_end heq (by omega) (by omega) (by omega), if_neg (by omega), if_neg (by omega)], c1⟩

set_option maxRecDepth 100000 in
set_option maxHeartbeats 1000000 in
theorem slIndexFunc_any (A : Option Addr) (n c : Nat) (zs : List Int) (g : FuncId) (lb : Array Value) (q : Int → Bool) (w : World) (ha : Rd w 1 A n (intsV zs)) (hn : n ≤ 1048576) (he : enters Try.prog g = true) (HG : ∀ W (z : Int), Below w.heap.size w W → Calls Try.prog g (#[.int .i64 z] ++ lb) W fun e w' => e = .returned (.bool (q z)) ∧ Below W.heap.size W w') :
    Calls Try.prog 134 #[.slice A n c, .func (.func g) #[] lb] w fun e w' => e = .returned (.int .i64 (idxI q zs)) ∧ Below w.heap.size w w' := by
  have hl := rd_ints_len ha
  go_enter Try.func134, Try.ntmps134
  refine wp_seq_k (fun K1 h1 => ?_)
  refine W.region_quiet [(0, false)] (by kernel_rfl) ?_
  refine W.sq (v := .int .i64 0) rfl (r_assign rfl (by kernel_rfl)) (by kernel_rfl) rfl rfl ?_
  refine W.sch_end (l' := [.slice A n c, .func (.func g) #[] lb, undef, undef, .int .i64 0, undef, undef, undef, undef, undef, undef, undef, undef, undef, undef, undef, undef, undef, undef]) (by kernel_rfl) ?_
  refine h1 _ _ ?_
  refine wp_seq_k (fun K2 h2 => ?_)
  refine wp_seq_k (fun K3 h3 => ?_)
  refine W.region_quiet [(0, false), (1, false), (2, false)] (by kernel_rfl) ?_
  refine W.sq (v := .slice A n c) rfl (r_move rfl (by kernel_rfl)) (by kernel_rfl) rfl rfl ?_
  refine W.sq (v := .int .i64 ((n : Nat) : Int)) rfl (r_len (A := A) (n := n) (c := c) rfl (by kernel_rfl) (by kernel_rfl)) (by kernel_rfl) rfl rfl ?_
  refine W.sq (v := .int .i64 0) rfl (r_move rfl (by kernel_rfl)) (by kernel_rfl) rfl rfl ?_
  refine W.sch_endU (fun U1 => [.slice A n c, .func (.func g) #[] lb, undef, undef, .int .i64 0, undef, U1 6, .int .i64 ((n : Nat) : Int), .int .i64 0, undef, undef, undef, undef, undef, undef, undef, undef, undef, undef]) (by kernel_rfl) (fun U1 => ?_)
  refine h3 _ _ ?_
  refine wp_block ?_
  refine loopK (fun am0 aa0 wl0 => ∃ (k : Nat) (U0 : Nat → Value), aa0 = ⟨[.slice A n c, .func (.func g) #[] lb, undef, undef, .int .i64 0, U0 5, (U1 6), .int .i64 ((n : Nat) : Int), .int .i64 ((k : Nat) : Int), U0 9, U0 10, U0 11, U0 12, U0 13, U0 14, U0 15, U0 16, U0 17, U0 18].toArray, []⟩ ∧ (am0 = n - k) ∧ (k ≤ n) ∧ (∀ j z, j < k → zs[j]? = some z → q z = false) ∧ (Below w.heap.size w wl0)) (n - 0) ?_ ?_
  · exact ⟨0, (fun iU9 => [.slice A n c, .func (.func g) #[] lb, undef, undef, .int .i64 0, undef, (U1 6), .int .i64 ((n : Nat) : Int), .int .i64 0, undef, undef, undef, undef, undef, undef, undef, undef, undef, undef].getD iU9 undef), (by kernel_rfl), rfl, (Nat.zero_le _), (fun j z hj => absurd hj (by omega)), (Below.refl _ _)⟩
  rintro am0 aa0 wl0 K4 h4 ⟨k, U0, rfl, rfl, hk, hno, c2⟩
  refine wp_seq_k (fun K5 h5 => ?_)
  refine W.region_quiet [(0, false)] (by kernel_rfl) ?_
  by_cases q3 : (((k : Nat) : Int) : Int) < (((n : Nat) : Int) : Int)
  · refine W.sq (v := .bool true) rfl (r_lss (m := ((k : Nat) : Int)) (n := ((n : Nat) : Int)) rfl (by kernel_rfl) (by kernel_rfl) (decide_eq_true q3)) (by kernel_rfl) rfl rfl ?_
    refine W.sch_end (l' := [.slice A n c, .func (.func g) #[] lb, undef, undef, .int .i64 0, (U0 5), (U1 6), .int .i64 ((n : Nat) : Int), .int .i64 ((k : Nat) : Int), .bool true, (U0 10), (U0 11), (U0 12), (U0 13), (U0 14), (U0 15), (U0 16), (U0 17), (U0 18)]) (by kernel_rfl) ?_
    refine h5 _ _ ?_
    refine wp_seq_k (fun K6 h6 => ?_)
    refine wp_cond_true (by kernel_rfl) ?_
    refine wp_skip ?_
    refine h6 _ _ ?_
    refine wp_seq_k (fun K7 h7 => ?_)
    refine wp_block ?_
    refine wp_seq_k (fun K8 h8 => ?_)
    refine W.region_quiet [(0, false), (1, false)] (by kernel_rfl) ?_
    refine W.sq (v := .int .i64 ((k : Nat) : Int)) rfl (r_move rfl (by kernel_rfl)) (by kernel_rfl) rfl rfl ?_
    refine W.sq (v := .int .i64 ((k : Nat) : Int)) rfl (r_assign rfl (by kernel_rfl)) (by kernel_rfl) rfl rfl ?_
    refine W.sch_endU (fun U4 => [.slice A n c, .func (.func g) #[] lb, undef, undef, .int .i64 0, .int .i64 ((k : Nat) : Int), (U1 6), .int .i64 ((n : Nat) : Int), .int .i64 ((k : Nat) : Int), .bool true, U4 10, (U0 11), (U0 12), (U0 13), (U0 14), (U0 15), (U0 16), (U0 17), (U0 18)]) (by kernel_rfl) (fun U4 => ?_)
    refine h8 _ _ ?_
    refine wp_seq_k (fun K9 h9 => ?_)
    refine W.region_plain (row := none) [(0, false), (1, false), (2, false), (3, false), (4, false), (5, true)] (by kernel_rfl) ?_
    have s5 := SG.self wl0 none
    refine W.sq (v := .func (.func g) #[] lb) rfl (r_move rfl (by kernel_rfl)) (by kernel_rfl) rfl rfl ?_
    refine W.sq (v := .slice A n c) rfl (r_move rfl (by kernel_rfl)) (by kernel_rfl) rfl rfl ?_
    refine W.sq (v := .int .i64 ((k : Nat) : Int)) rfl (r_move rfl (by kernel_rfl)) (by kernel_rfl) rfl rfl ?_
    obtain ⟨x6, hx7⟩ := get_of (zs := zs) (k := k) (by have := hl; omega)
    obtain ⟨b8, o9, hA10, hb11, hc12⟩ := Rd.elInt ha hx7
    refine W.sq (v := .pointer (some ⟨b8, o9 + k, none⟩)) rfl (r_idx1 (n := n) (c := c) (k := k) rfl (by kernel_rfl) hA10 (by kernel_rfl) (by kernel_rfl) (by have := hl; omega)) (by kernel_rfl) rfl rfl ?_
    refine W.sq (v := .int .i64 x6) rfl (r_load rfl (by kernel_rfl) (by kernel_rfl) (sgS (later c2 hc12) (by simp))) (by kernel_rfl) rfl rfl ?_
    refine W.scv (vs := [.int .i64 x6]) (g := g) (lb := lb) rfl rfl (by kernel_rfl) (by kernel_rfl) he (by kernel_rfl) rfl (HG _ x6 ((SG.belowR c2 s5 (fun kq e => by cases e)))) ?_
    rintro e w14 ⟨rfl, b13⟩
    have s15 := SG.of_below s5 b13
    refine ⟨_, rfl, s15, ?_⟩
    rcases Bool.eq_false_or_eq_true (q x6) with q16 | q16
    · rw [q16]
      refine W.sch_endU (fun U17 => [.slice A n c, .func (.func g) #[] lb, undef, undef, .int .i64 0, .int .i64 ((k : Nat) : Int), (U1 6), .int .i64 ((n : Nat) : Int), .int .i64 ((k : Nat) : Int), .bool true, (U4 10), U17 11, U17 12, U17 13, U17 14, U17 15, .bool true, (U0 17), (U0 18)]) (by kernel_rfl) (fun U17 => ?_)
      have c18 := (SG.belowR c2 s15 (fun kq e => by cases e))
      refine h9 _ _ ?_
      refine wp_cond_true (by kernel_rfl) ?_
      refine wp_seq_k (fun K10 h10 => ?_)
      refine W.region_quiet [(0, false), (1, false)] (by kernel_rfl) ?_
      refine W.sq (v := .int .i64 ((k : Nat) : Int)) rfl (r_move rfl (by kernel_rfl)) (by kernel_rfl) rfl rfl ?_
      refine W.sq (v := .int .i64 ((k : Nat) : Int)) rfl (r_assign rfl (by kernel_rfl)) (by kernel_rfl) rfl rfl ?_
      refine W.sch_endU (fun U19 => [.slice A n c, .func (.func g) #[] lb, undef, undef, .int .i64 ((k : Nat) : Int), .int .i64 ((k : Nat) : Int), (U1 6), .int .i64 ((n : Nat) : Int), .int .i64 ((k : Nat) : Int), .bool true, (U4 10), (U17 11), (U17 12), (U17 13), (U17 14), (U17 15), .bool true, U19 17, (U0 18)]) (by kernel_rfl) (fun U19 => ?_)
      refine h10 _ _ ?_
      refine wp_ret ?_
      try simp only [Exit.then, Exit.inBlock]
      refine ret1 (v := .int .i64 ((k : Nat) : Int)) rfl (by kernel_rfl) ?_
      exact ⟨by rw [idxI_at hno hx7 q16], c18⟩
    · rw [q16]
      refine W.sch_endU (fun U20 => [.slice A n c, .func (.func g) #[] lb, undef, undef, .int .i64 0, .int .i64 ((k : Nat) : Int), (U1 6), .int .i64 ((n : Nat) : Int), .int .i64 ((k : Nat) : Int), .bool true, (U4 10), U20 11, U20 12, U20 13, U20 14, U20 15, .bool false, (U0 17), (U0 18)]) (by kernel_rfl) (fun U20 => ?_)
      have c21 := (SG.belowR c2 s15 (fun kq e => by cases e))
      refine h9 _ _ ?_
      refine wp_cond_false (by kernel_rfl) ?_
      refine wp_skip ?_
      refine h7 _ _ ?_
      refine W.region_quiet [(0, false), (1, false)] (by kernel_rfl) ?_
      refine W.sq (v := .int .i64 ((k + 1 : Nat) : Int)) rfl (r_add (m := ((k : Nat) : Int)) (n := 1) (z := ((k + 1 : Nat) : Int)) rfl (by kernel_rfl) (by kernel_rfl) (by omega) (by omega)) (by kernel_rfl) rfl rfl ?_
      refine W.sq (v := .int .i64 ((k + 1 : Nat) : Int)) rfl (r_move rfl (by kernel_rfl)) (by kernel_rfl) rfl rfl ?_
      refine W.sch_endU (fun U22 => [.slice A n c, .func (.func g) #[] lb, undef, undef, .int .i64 0, .int .i64 ((k : Nat) : Int), (U1 6), .int .i64 ((n : Nat) : Int), .int .i64 ((k + 1 : Nat) : Int), .bool true, (U4 10), (U20 11), (U20 12), (U20 13), (U20 14), (U20 15), .bool false, (U0 17), U22 18]) (by kernel_rfl) (fun U22 => ?_)
      exact h4 _ _ _ (by omega : (n - (k + 1)) < _) ⟨k + 1, (fun iU9 => [.slice A n c, .func (.func g) #[] lb, undef, undef, .int .i64 0, .int .i64 ((k : Nat) : Int), (U1 6), .int .i64 ((n : Nat) : Int), .int .i64 ((k + 1 : Nat) : Int), .bool true, (U4 10), (U20 11), (U20 12), (U20 13), (U20 14), (U20 15), .bool false, (U0 17), (U22 18)].getD iU9 undef), (by kernel_rfl), rfl, (by omega), (upto_succ (Q := fun z => q z = false) hno hx7 q16), c21⟩
  · refine W.sq (v := .bool false) rfl (r_lss (m := ((k : Nat) : Int)) (n := ((n : Nat) : Int)) rfl (by kernel_rfl) (by kernel_rfl) (decide_eq_false q3)) (by kernel_rfl) rfl rfl ?_
    refine W.sch_end (l' := [.slice A n c, .func (.func g) #[] lb, undef, undef, .int .i64 0, (U0 5), (U1 6), .int .i64 ((n : Nat) : Int), .int .i64 ((k : Nat) : Int), .bool false, (U0 10), (U0 11), (U0 12), (U0 13), (U0 14), (U0 15), (U0 16), (U0 17), (U0 18)]) (by kernel_rfl) ?_
    refine h5 _ _ ?_
    refine wp_seq_k (fun K11 h11 => ?_)
    refine wp_cond_false (by kernel_rfl) ?_
    refine wp_exit ?_
    refine h2 _ _ ?_
    refine wp_seq_k (fun K12 h12 => ?_)
    refine W.region_quiet [(0, false)] (by kernel_rfl) ?_
    refine W.sq (v := .int .i64 (-1)) rfl (r_assign rfl (by kernel_rfl)) (by kernel_rfl) rfl rfl ?_
    refine W.sch_end (l' := [.slice A n c, .func (.func g) #[] lb, undef, undef, .int .i64 (-1), (U0 5), (U1 6), .int .i64 ((n : Nat) : Int), .int .i64 ((k : Nat) : Int), .bool false, (U0 10), (U0 11), (U0 12), (U0 13), (U0 14), (U0 15), (U0 16), (U0 17), (U0 18)]) (by kernel_rfl) ?_
    refine h12 _ _ ?_
    refine wp_ret ?_
    try simp only [Exit.then]
    refine ret1 (v := .int .i64 (-1)) rfl (by kernel_rfl) ?_
    exact ⟨by rw [idxI_none (fun j z hj => hno j z (by omega))], c2⟩

set_option maxRecDepth 100000 in
set_option maxHeartbeats 1000000 in
theorem slContainsFunc_any (A : Option Addr) (n c : Nat) (zs : List Int) (g : FuncId) (lb : Array Value) (q : Int → Bool) (w : World) (ha : Rd w 1 A n (intsV zs)) (hn : n ≤ 1048576) (he : enters Try.prog g = true) (HG : ∀ W (z : Int), Below w.heap.size w W → Calls Try.prog g (#[.int .i64 z] ++ lb) W fun e w' => e = .returned (.bool (q z)) ∧ Below W.heap.size W w') :
    Calls Try.prog 109 #[.slice A n c, .func (.func g) #[] lb] w fun e w' => e = .returned (.bool (zs.any q)) ∧ Below w.heap.size w w' := by
  have hl := rd_ints_len ha
  go_enter Try.func109, Try.ntmps109
  refine wp_seq_k (fun K1 h1 => ?_)
  refine W.region_quiet [(0, false)] (by kernel_rfl) ?_
  refine W.sq (v := .bool false) rfl (r_assign rfl (by kernel_rfl)) (by kernel_rfl) rfl rfl ?_
  refine W.sch_end (l' := [.slice A n c, .func (.func g) #[] lb, undef, undef, .bool false, undef, undef, undef, undef]) (by kernel_rfl) ?_
  refine h1 _ _ ?_
  refine wp_seq_k (fun K2 h2 => ?_)
  refine W.region_plain (row := none) [(0, false), (1, false), (2, true), (3, false), (4, false)] (by kernel_rfl) ?_
  have s1 := SG.self w none
  refine W.sq (v := .slice A n c) rfl (r_move rfl (by kernel_rfl)) (by kernel_rfl) rfl rfl ?_
  refine W.sq (v := .func (.func g) #[] lb) rfl (r_move rfl (by kernel_rfl)) (by kernel_rfl) rfl rfl ?_
  refine W.sc (vs := [.slice A n c, .func (.func g) #[] lb]) rfl rfl (by kernel_rfl) (by kernel_rfl) (by kernel_rfl) rfl (slIndexFunc_any A n c zs g lb q _ (Rd.kept ha (SG.belowR (Below.refl _ _) s1 (fun kq e => by cases e))) (by omega) he (fun W v hW => HG W v (((SG.belowR (Below.refl _ _) s1 (fun kq e => by cases e))).trans (hW.mono ((SG.belowR (Below.refl _ _) s1 (fun kq e => by cases e))).size)))) ?_
  rintro e w3 ⟨rfl, b2⟩
  have s4 := SG.of_below s1 b2
  refine ⟨_, rfl, s4, ?_⟩
  by_cases q5 : (idxI q zs : Int) ≥ (0 : Int)
  · refine W.sq (v := .bool true) rfl (r_geq (m := idxI q zs) (n := 0) rfl (by kernel_rfl) (by kernel_rfl) (decide_eq_true q5)) (by kernel_rfl) rfl rfl ?_
    refine W.sq (v := .bool true) rfl (r_assign rfl (by kernel_rfl)) (by kernel_rfl) rfl rfl ?_
    refine W.sch_endU (fun U6 => [.slice A n c, .func (.func g) #[] lb, undef, undef, .bool true, U6 5, U6 6, U6 7, U6 8]) (by kernel_rfl) (fun U6 => ?_)
    have c7 := (SG.belowR (Below.refl _ _) s4 (fun kq e => by cases e))
    refine h2 _ _ ?_
    refine wp_ret ?_
    try simp only [Exit.then]
    refine ret1 (v := .bool true) rfl (by kernel_rfl) ?_
    exact ⟨by rw [← idxI_pos, decide_eq_true q5], c7⟩
  · refine W.sq (v := .bool false) rfl (r_geq (m := idxI q zs) (n := 0) rfl (by kernel_rfl) (by kernel_rfl) (decide_eq_false q5)) (by kernel_rfl) rfl rfl ?_
    refine W.sq (v := .bool false) rfl (r_assign rfl (by kernel_rfl)) (by kernel_rfl) rfl rfl ?_
    refine W.sch_endU (fun U8 => [.slice A n c, .func (.func g) #[] lb, undef, undef, .bool false, U8 5, U8 6, U8 7, U8 8]) (by kernel_rfl) (fun U8 => ?_)
    have c9 := (SG.belowR (Below.refl _ _) s4 (fun kq e => by cases e))
    refine h2 _ _ ?_
    refine wp_ret ?_
    try simp only [Exit.then]
    refine ret1 (v := .bool false) rfl (by kernel_rfl) ?_
    exact ⟨by rw [← idxI_pos, decide_eq_false q5], c9⟩

set_option maxRecDepth 100000 in
set_option maxHeartbeats 1000000 in
theorem ascending_any (A : Option Addr) (n c : Nat) (zs : List Int) (lo hi : Int) (w : World) (ha : Rd w 1 A n (intsV zs)) (hn : n ≤ 1048576) :
    Calls Try.prog 57 #[.slice A n c, .int .i64 lo, .int .i64 hi] w fun e w' => e = .returned (.bool (riseL lo hi zs)) ∧ Below w.heap.size w w' := by
  have hl := rd_ints_len ha
  go_enter Try.func57, Try.ntmps57
  refine wp_seq_k (fun K1 h1 => ?_)
  refine W.region_quiet [(0, false)] (by kernel_rfl) ?_
  refine W.sq (v := .bool false) rfl (r_assign rfl (by kernel_rfl)) (by kernel_rfl) rfl rfl ?_
  refine W.sch_end (l' := [.slice A n c, .int .i64 lo, .int .i64 hi, undef, undef, undef, .bool false, undef, undef, undef, undef, undef, undef, undef, undef, undef, undef, undef, undef, undef, undef, undef, undef, undef, undef, undef, undef, undef, undef, undef, undef, undef, undef, undef, undef]) (by kernel_rfl) ?_
  refine h1 _ _ ?_
  refine wp_seq_k (fun K2 h2 => ?_)
  refine wp_seq_k (fun K3 h3 => ?_)
  refine W.region_quiet [(0, false), (1, false), (2, false)] (by kernel_rfl) ?_
  refine W.sq (v := .slice A n c) rfl (r_move rfl (by kernel_rfl)) (by kernel_rfl) rfl rfl ?_
  refine W.sq (v := .int .i64 ((n : Nat) : Int)) rfl (r_len (A := A) (n := n) (c := c) rfl (by kernel_rfl) (by kernel_rfl)) (by kernel_rfl) rfl rfl ?_
  refine W.sq (v := .int .i64 0) rfl (r_move rfl (by kernel_rfl)) (by kernel_rfl) rfl rfl ?_
  refine W.sch_end (l' := [.slice A n c, .int .i64 lo, .int .i64 hi, undef, undef, undef, .bool false, undef, undef, .slice A n c, .int .i64 ((n : Nat) : Int), .int .i64 0, undef, undef, undef, undef, undef, undef, undef, undef, undef, undef, undef, undef, undef, undef, undef, undef, undef, undef, undef, undef, undef, undef, undef]) (by kernel_rfl) ?_
  refine h3 _ _ ?_
  refine wp_block ?_
  refine loopK (fun am0 aa0 wl0 => ∃ (K : Nat) (U0 : Nat → Value), aa0 = ⟨[.slice A n c, .int .i64 lo, .int .i64 hi, undef, undef, undef, .bool false, U0 7, U0 8, .slice A n c, .int .i64 ((n : Nat) : Int), .int .i64 ((K : Nat) : Int), U0 12, U0 13, U0 14, U0 15, U0 16, U0 17, U0 18, U0 19, U0 20, U0 21, U0 22, U0 23, U0 24, U0 25, U0 26, U0 27, U0 28, U0 29, U0 30, U0 31, U0 32, U0 33, U0 34].toArray, []⟩ ∧ (am0 = n - K) ∧ (K ≤ n) ∧ (riseTo lo hi zs K = true) ∧ (Below w.heap.size w wl0)) (n - 0) ?_ ?_
  · exact ⟨0, (fun iU9 => [.slice A n c, .int .i64 lo, .int .i64 hi, undef, undef, undef, .bool false, undef, undef, .slice A n c, .int .i64 ((n : Nat) : Int), .int .i64 0, undef, undef, undef, undef, undef, undef, undef, undef, undef, undef, undef, undef, undef, undef, undef, undef, undef, undef, undef, undef, undef, undef, undef].getD iU9 undef), (by kernel_rfl), rfl, (Nat.zero_le _), rfl, (Below.refl _ _)⟩
  rintro am0 aa0 wl0 K4 h4 ⟨K, U0, rfl, rfl, hk, hok, c1⟩
  refine wp_seq_k (fun K5 h5 => ?_)
  refine W.region_quiet [(0, false)] (by kernel_rfl) ?_
  by_cases q2 : (((K : Nat) : Int) : Int) < (((n : Nat) : Int) : Int)
  · refine W.sq (v := .bool true) rfl (r_lss (m := ((K : Nat) : Int)) (n := ((n : Nat) : Int)) rfl (by kernel_rfl) (by kernel_rfl) (decide_eq_true q2)) (by kernel_rfl) rfl rfl ?_
    refine W.sch_end (l' := [.slice A n c, .int .i64 lo, .int .i64 hi, undef, undef, undef, .bool false, (U0 7), (U0 8), .slice A n c, .int .i64 ((n : Nat) : Int), .int .i64 ((K : Nat) : Int), .bool true, (U0 13), (U0 14), (U0 15), (U0 16), (U0 17), (U0 18), (U0 19), (U0 20), (U0 21), (U0 22), (U0 23), (U0 24), (U0 25), (U0 26), (U0 27), (U0 28), (U0 29), (U0 30), (U0 31), (U0 32), (U0 33), (U0 34)]) (by kernel_rfl) ?_
    refine h5 _ _ ?_
    refine wp_seq_k (fun K6 h6 => ?_)
    refine wp_cond_true (by kernel_rfl) ?_
    refine wp_skip ?_
    refine h6 _ _ ?_
    refine wp_seq_k (fun K7 h7 => ?_)
    refine wp_block ?_
    refine wp_seq_k (fun K8 h8 => ?_)
    refine W.region_quiet [(0, false), (1, false), (2, false), (3, false), (4, false)] (by kernel_rfl) ?_
    refine W.sq (v := .int .i64 ((K : Nat) : Int)) rfl (r_move rfl (by kernel_rfl)) (by kernel_rfl) rfl rfl ?_
    obtain ⟨x3, hx4⟩ := get_of (zs := zs) (k := K) (by have := hl; omega)
    obtain ⟨b5, o6, hA7, hb8, hc9⟩ := Rd.elInt ha hx4
    refine W.sq (v := .pointer (some ⟨b5, o6 + K, none⟩)) rfl (r_idx1 (n := n) (c := c) (k := K) rfl (by kernel_rfl) hA7 (by kernel_rfl) (by kernel_rfl) (by have := hl; omega)) (by kernel_rfl) rfl rfl ?_
    refine W.sq (v := .int .i64 x3) rfl (r_load rfl (by kernel_rfl) (by kernel_rfl) (eqS (later c1 hc9))) (by kernel_rfl) rfl rfl ?_
    refine W.sq (v := .int .i64 ((K : Nat) : Int)) rfl (r_assign rfl (by kernel_rfl)) (by kernel_rfl) rfl rfl ?_
    refine W.sq (v := .int .i64 x3) rfl (r_assign rfl (by kernel_rfl)) (by kernel_rfl) rfl rfl ?_
    refine W.sch_endU (fun U10 => [.slice A n c, .int .i64 lo, .int .i64 hi, undef, undef, undef, .bool false, .int .i64 ((K : Nat) : Int), .int .i64 x3, .slice A n c, .int .i64 ((n : Nat) : Int), .int .i64 ((K : Nat) : Int), .bool true, U10 13, U10 14, U10 15, (U0 16), (U0 17), (U0 18), (U0 19), (U0 20), (U0 21), (U0 22), (U0 23), (U0 24), (U0 25), (U0 26), (U0 27), (U0 28), (U0 29), (U0 30), (U0 31), (U0 32), (U0 33), (U0 34)]) (by kernel_rfl) (fun U10 => ?_)
    refine h8 _ _ ?_
    refine wp_seq_k (fun K9 h9 => ?_)
    refine W.region_plain (row := none) [(0, false), (1, false), (2, false), (3, true), (4, false), (5, false), (6, false), (7, false), (8, false), (9, false), (10, false), (11, false), (12, false), (13, false), (14, false), (15, false), (16, false), (17, false)] (by kernel_rfl) ?_
    have s11 := SG.self wl0 none
    refine W.sq (v := .int .i64 x3) rfl (r_move rfl (by kernel_rfl)) (by kernel_rfl) rfl rfl ?_
    refine W.sq (v := .int .i64 lo) rfl (r_move rfl (by kernel_rfl)) (by kernel_rfl) rfl rfl ?_
    refine W.sq (v := .int .i64 hi) rfl (r_move rfl (by kernel_rfl)) (by kernel_rfl) rfl rfl ?_
    refine W.sc (vs := [.int .i64 x3, .int .i64 lo, .int .i64 hi]) rfl rfl (by kernel_rfl) (by kernel_rfl) (by kernel_rfl) rfl (inside_any x3 lo hi _) ?_
    rintro e w' ⟨rfl, rfl⟩
    refine ⟨_, rfl, s11, ?_⟩
    rcases Bool.eq_false_or_eq_true (inB x3 lo hi) with q14 | q14
    · rw [q14]
      refine W.sq (v := .bool false) rfl (r_not (b := true) rfl (by kernel_rfl) rfl) (by kernel_rfl) rfl rfl ?_
      refine W.sq (v := .bool false) rfl (r_move rfl (by kernel_rfl)) (by kernel_rfl) rfl rfl ?_
      refine W.sq (v := .int .i64 ((K : Nat) : Int)) rfl (r_move rfl (by kernel_rfl)) (by kernel_rfl) rfl rfl ?_
      by_cases q15 : (((K : Nat) : Int) : Int) > (0 : Int)
      · obtain ⟨k, rfl⟩ : ∃ k, K = k + 1 := ⟨K - 1, by omega⟩
        refine W.sq (v := .bool true) rfl (r_gtr (m := (((k + 1) : Nat) : Int)) (n := 0) rfl (by kernel_rfl) (by kernel_rfl) (decide_eq_true q15)) (by kernel_rfl) rfl rfl ?_
        refine W.sq (v := .bool true) rfl (r_move rfl (by kernel_rfl)) (by kernel_rfl) rfl rfl ?_
        refine W.sq (v := .slice A n c) rfl (r_move rfl (by kernel_rfl)) (by kernel_rfl) rfl rfl ?_
        refine W.sq (v := .int .i64 (((k + 1) : Nat) : Int)) rfl (r_move rfl (by kernel_rfl)) (by kernel_rfl) rfl rfl ?_
        refine W.sq (v := .int .i64 ((k : Nat) : Int)) rfl (r_sub (m := (((k + 1) : Nat) : Int)) (n := 1) (z := ((k : Nat) : Int)) rfl (by kernel_rfl) (by kernel_rfl) (by omega) (by omega)) (by kernel_rfl) rfl rfl ?_
        obtain ⟨x16, hx17⟩ := get_of (zs := zs) (k := k) (by have := hl; omega)
        obtain ⟨b18, o19, hA20, hb21, hc22⟩ := Rd.elInt ha hx17
        refine W.sq (v := .pointer (some ⟨b18, o19 + k, none⟩)) rfl (r_idx1 (n := n) (c := c) (k := k) rfl (by kernel_rfl) hA20 (by kernel_rfl) (by kernel_rfl) (by have := hl; omega)) (by kernel_rfl) rfl rfl ?_
        refine W.sq (v := .int .i64 x16) rfl (r_load rfl (by kernel_rfl) (by kernel_rfl) (sgS (later c1 hc22) (by simp))) (by kernel_rfl) rfl rfl ?_
        refine W.sq (v := .int .i64 x3) rfl (r_move rfl (by kernel_rfl)) (by kernel_rfl) rfl rfl ?_
        by_cases q23 : (x16 : Int) ≥ (x3 : Int)
        · refine W.sq (v := .bool true) rfl (r_geq (m := x16) (n := x3) rfl (by kernel_rfl) (by kernel_rfl) (decide_eq_true q23)) (by kernel_rfl) rfl rfl ?_
          refine W.sq (v := .bool true) rfl (r_pick (b := true) rfl (by kernel_rfl) (by kernel_rfl)) (by kernel_rfl) rfl rfl ?_
          refine W.sq (v := .bool true) rfl (r_pick (b := false) rfl (by kernel_rfl) (by kernel_rfl)) (by kernel_rfl) rfl rfl ?_
          refine W.sch_endU (fun U24 => [.slice A n c, .int .i64 lo, .int .i64 hi, undef, undef, undef, .bool false, .int .i64 (((k + 1) : Nat) : Int), .int .i64 x3, .slice A n c, .int .i64 ((n : Nat) : Int), .int .i64 (((k + 1) : Nat) : Int), .bool true, (U10 13), (U10 14), (U10 15), U24 16, U24 17, U24 18, U24 19, U24 20, U24 21, U24 22, U24 23, U24 24, U24 25, U24 26, U24 27, U24 28, U24 29, U24 30, U24 31, U24 32, .bool true, (U0 34)]) (by kernel_rfl) (fun U24 => ?_)
          have c25 := (SG.belowR c1 s11 (fun kq e => by cases e))
          refine h9 _ _ ?_
          refine wp_cond_true (by kernel_rfl) ?_
          refine wp_seq_k (fun K10 h10 => ?_)
          refine W.region_quiet [(0, false)] (by kernel_rfl) ?_
          refine W.sq (v := .bool false) rfl (r_assign rfl (by kernel_rfl)) (by kernel_rfl) rfl rfl ?_
          refine W.sch_end (l' := [.slice A n c, .int .i64 lo, .int .i64 hi, undef, undef, undef, .bool false, .int .i64 (((k + 1) : Nat) : Int), .int .i64 x3, .slice A n c, .int .i64 ((n : Nat) : Int), .int .i64 (((k + 1) : Nat) : Int), .bool true, (U10 13), (U10 14), (U10 15), (U24 16), (U24 17), (U24 18), (U24 19), (U24 20), (U24 21), (U24 22), (U24 23), (U24 24), (U24 25), (U24 26), (U24 27), (U24 28), (U24 29), (U24 30), (U24 31), (U24 32), .bool true, (U0 34)]) (by kernel_rfl) ?_
          refine h10 _ _ ?_
          refine wp_ret ?_
          try simp only [Exit.then, Exit.inBlock]
          refine ret1 (v := .bool false) rfl (by kernel_rfl) ?_
          have e8 : okI lo hi zs (k + 1) = false := (by rw [okI_next hx4 hx17, decide_eq_false (by omega), Bool.and_false])
          exact ⟨ret_bool (riseL_bad (k := k + 1) (by omega) e8).symm, c25⟩
        · refine W.sq (v := .bool false) rfl (r_geq (m := x16) (n := x3) rfl (by kernel_rfl) (by kernel_rfl) (decide_eq_false q23)) (by kernel_rfl) rfl rfl ?_
          refine W.sq (v := .bool false) rfl (r_pick (b := true) rfl (by kernel_rfl) (by kernel_rfl)) (by kernel_rfl) rfl rfl ?_
          refine W.sq (v := .bool false) rfl (r_pick (b := false) rfl (by kernel_rfl) (by kernel_rfl)) (by kernel_rfl) rfl rfl ?_
          refine W.sch_endU (fun U26 => [.slice A n c, .int .i64 lo, .int .i64 hi, undef, undef, undef, .bool false, .int .i64 (((k + 1) : Nat) : Int), .int .i64 x3, .slice A n c, .int .i64 ((n : Nat) : Int), .int .i64 (((k + 1) : Nat) : Int), .bool true, (U10 13), (U10 14), (U10 15), U26 16, U26 17, U26 18, U26 19, U26 20, U26 21, U26 22, U26 23, U26 24, U26 25, U26 26, U26 27, U26 28, U26 29, U26 30, U26 31, U26 32, .bool false, (U0 34)]) (by kernel_rfl) (fun U26 => ?_)
          have c27 := (SG.belowR c1 s11 (fun kq e => by cases e))
          refine h9 _ _ ?_
          refine wp_cond_false (by kernel_rfl) ?_
          refine wp_skip ?_
          refine h7 _ _ ?_
          refine W.region_quiet [(0, false), (1, false)] (by kernel_rfl) ?_
          refine W.sq (v := .int .i64 (((k + 1) + 1 : Nat) : Int)) rfl (r_add (m := (((k + 1) : Nat) : Int)) (n := 1) (z := (((k + 1) + 1 : Nat) : Int)) rfl (by kernel_rfl) (by kernel_rfl) (by omega) (by omega)) (by kernel_rfl) rfl rfl ?_
          refine W.sq (v := .int .i64 (((k + 1) + 1 : Nat) : Int)) rfl (r_move rfl (by kernel_rfl)) (by kernel_rfl) rfl rfl ?_
          refine W.sch_endU (fun U28 => [.slice A n c, .int .i64 lo, .int .i64 hi, undef, undef, undef, .bool false, .int .i64 (((k + 1) : Nat) : Int), .int .i64 x3, .slice A n c, .int .i64 ((n : Nat) : Int), .int .i64 (((k + 1) + 1 : Nat) : Int), .bool true, (U10 13), (U10 14), (U10 15), (U26 16), (U26 17), (U26 18), (U26 19), (U26 20), (U26 21), (U26 22), (U26 23), (U26 24), (U26 25), (U26 26), (U26 27), (U26 28), (U26 29), (U26 30), (U26 31), (U26 32), .bool false, U28 34]) (by kernel_rfl) (fun U28 => ?_)
          exact h4 _ _ _ (by omega : (n - (k + 1 + 1)) < _) ⟨k + 1 + 1, (fun iU9 => [.slice A n c, .int .i64 lo, .int .i64 hi, undef, undef, undef, .bool false, .int .i64 (((k + 1) : Nat) : Int), .int .i64 x3, .slice A n c, .int .i64 ((n : Nat) : Int), .int .i64 (((k + 1) + 1 : Nat) : Int), .bool true, (U10 13), (U10 14), (U10 15), (U26 16), (U26 17), (U26 18), (U26 19), (U26 20), (U26 21), (U26 22), (U26 23), (U26 24), (U26 25), (U26 26), (U26 27), (U26 28), (U26 29), (U26 30), (U26 31), (U26 32), .bool false, (U28 34)].getD iU9 undef), (by kernel_rfl), rfl, (by omega), (riseTo_next hok (by rw [okI_next hx4 hx17, q14, decide_eq_true (by omega)]; rfl)), c27⟩
      · refine W.sq (v := .bool false) rfl (r_gtr (m := ((K : Nat) : Int)) (n := 0) rfl (by kernel_rfl) (by kernel_rfl) (decide_eq_false q15)) (by kernel_rfl) rfl rfl ?_
        refine W.sq (v := .bool false) rfl (r_move rfl (by kernel_rfl)) (by kernel_rfl) rfl rfl ?_
        refine W.sk s11 rfl (by kernel_rfl) rfl rfl ?_
        refine W.sk s11 rfl (by kernel_rfl) rfl rfl ?_
        refine W.sk s11 rfl (by kernel_rfl) rfl rfl ?_
        refine W.sk s11 rfl (by kernel_rfl) rfl rfl ?_
        refine W.sk s11 rfl (by kernel_rfl) rfl rfl ?_
        refine W.sk s11 rfl (by kernel_rfl) rfl rfl ?_
        refine W.sk s11 rfl (by kernel_rfl) rfl rfl ?_
        refine W.sq (v := .bool false) rfl (r_pick (b := false) rfl (by kernel_rfl) (by kernel_rfl)) (by kernel_rfl) rfl rfl ?_
        refine W.sq (v := .bool false) rfl (r_pick (b := false) rfl (by kernel_rfl) (by kernel_rfl)) (by kernel_rfl) rfl rfl ?_
        refine W.sch_endU (fun U29 => [.slice A n c, .int .i64 lo, .int .i64 hi, undef, undef, undef, .bool false, .int .i64 ((K : Nat) : Int), .int .i64 x3, .slice A n c, .int .i64 ((n : Nat) : Int), .int .i64 ((K : Nat) : Int), .bool true, (U10 13), (U10 14), (U10 15), U29 16, U29 17, U29 18, U29 19, U29 20, U29 21, U29 22, U29 23, U29 24, undef, undef, undef, undef, undef, undef, undef, U29 32, .bool false, (U0 34)]) (by kernel_rfl) (fun U29 => ?_)
        have c30 := (SG.belowR c1 s11 (fun kq e => by cases e))
        refine h9 _ _ ?_
        refine wp_cond_false (by kernel_rfl) ?_
        refine wp_skip ?_
        refine h7 _ _ ?_
        refine W.region_quiet [(0, false), (1, false)] (by kernel_rfl) ?_
        refine W.sq (v := .int .i64 ((K + 1 : Nat) : Int)) rfl (r_add (m := ((K : Nat) : Int)) (n := 1) (z := ((K + 1 : Nat) : Int)) rfl (by kernel_rfl) (by kernel_rfl) (by omega) (by omega)) (by kernel_rfl) rfl rfl ?_
        refine W.sq (v := .int .i64 ((K + 1 : Nat) : Int)) rfl (r_move rfl (by kernel_rfl)) (by kernel_rfl) rfl rfl ?_
        refine W.sch_endU (fun U31 => [.slice A n c, .int .i64 lo, .int .i64 hi, undef, undef, undef, .bool false, .int .i64 ((K : Nat) : Int), .int .i64 x3, .slice A n c, .int .i64 ((n : Nat) : Int), .int .i64 ((K + 1 : Nat) : Int), .bool true, (U10 13), (U10 14), (U10 15), (U29 16), (U29 17), (U29 18), (U29 19), (U29 20), (U29 21), (U29 22), (U29 23), (U29 24), undef, undef, undef, undef, undef, undef, undef, (U29 32), .bool false, U31 34]) (by kernel_rfl) (fun U31 => ?_)
        exact h4 _ _ _ (by omega : (n - (K + 1)) < _) ⟨K + 1, (fun iU9 => [.slice A n c, .int .i64 lo, .int .i64 hi, undef, undef, undef, .bool false, .int .i64 ((K : Nat) : Int), .int .i64 x3, .slice A n c, .int .i64 ((n : Nat) : Int), .int .i64 ((K + 1 : Nat) : Int), .bool true, (U10 13), (U10 14), (U10 15), (U29 16), (U29 17), (U29 18), (U29 19), (U29 20), (U29 21), (U29 22), (U29 23), (U29 24), undef, undef, undef, undef, undef, undef, undef, (U29 32), .bool false, (U31 34)].getD iU9 undef), (by kernel_rfl), rfl, (by omega), (riseTo_next hok (by have e0 : K = 0 := (by omega); subst e0; rw [okI_zero hx4]; exact q14)), c30⟩
    · rw [q14]
      refine W.sq (v := .bool true) rfl (r_not (b := false) rfl (by kernel_rfl) rfl) (by kernel_rfl) rfl rfl ?_
      refine W.sq (v := .bool true) rfl (r_move rfl (by kernel_rfl)) (by kernel_rfl) rfl rfl ?_
      refine W.sk s11 rfl (by kernel_rfl) rfl rfl ?_
      refine W.sk s11 rfl (by kernel_rfl) rfl rfl ?_
      refine W.sk s11 rfl (by kernel_rfl) rfl rfl ?_
      refine W.sk s11 rfl (by kernel_rfl) rfl rfl ?_
      refine W.sk s11 rfl (by kernel_rfl) rfl rfl ?_
      refine W.sk s11 rfl (by kernel_rfl) rfl rfl ?_
      refine W.sk s11 rfl (by kernel_rfl) rfl rfl ?_
      refine W.sk s11 rfl (by kernel_rfl) rfl rfl ?_
      refine W.sk s11 rfl (by kernel_rfl) rfl rfl ?_
      refine W.sk s11 rfl (by kernel_rfl) rfl rfl ?_
      refine W.sk s11 rfl (by kernel_rfl) rfl rfl ?_
      refine W.sq (v := .bool true) rfl (r_pick (b := true) rfl (by kernel_rfl) (by kernel_rfl)) (by kernel_rfl) rfl rfl ?_
      refine W.sch_endU (fun U32 => [.slice A n c, .int .i64 lo, .int .i64 hi, undef, undef, undef, .bool false, .int .i64 ((K : Nat) : Int), .int .i64 x3, .slice A n c, .int .i64 ((n : Nat) : Int), .int .i64 ((K : Nat) : Int), .bool true, (U10 13), (U10 14), (U10 15), U32 16, U32 17, U32 18, U32 19, U32 20, U32 21, undef, undef, undef, undef, undef, undef, undef, undef, undef, undef, undef, .bool true, (U0 34)]) (by kernel_rfl) (fun U32 => ?_)
      have c33 := (SG.belowR c1 s11 (fun kq e => by cases e))
      refine h9 _ _ ?_
      refine wp_cond_true (by kernel_rfl) ?_
      refine wp_seq_k (fun K11 h11 => ?_)
      refine W.region_quiet [(0, false)] (by kernel_rfl) ?_
      refine W.sq (v := .bool false) rfl (r_assign rfl (by kernel_rfl)) (by kernel_rfl) rfl rfl ?_
      refine W.sch_end (l' := [.slice A n c, .int .i64 lo, .int .i64 hi, undef, undef, undef, .bool false, .int .i64 ((K : Nat) : Int), .int .i64 x3, .slice A n c, .int .i64 ((n : Nat) : Int), .int .i64 ((K : Nat) : Int), .bool true, (U10 13), (U10 14), (U10 15), (U32 16), (U32 17), (U32 18), (U32 19), (U32 20), (U32 21), undef, undef, undef, undef, undef, undef, undef, undef, undef, undef, undef, .bool true, (U0 34)]) (by kernel_rfl) ?_
      refine h11 _ _ ?_
      refine wp_ret ?_
      try simp only [Exit.then, Exit.inBlock]
      refine ret1 (v := .bool false) rfl (by kernel_rfl) ?_
      have e8 : okI lo hi zs (K) = false := okI_out hx4 q14
      exact ⟨ret_bool (riseL_bad (k := K) (by omega) e8).symm, c33⟩
  · refine W.sq (v := .bool false) rfl (r_lss (m := ((K : Nat) : Int)) (n := ((n : Nat) : Int)) rfl (by kernel_rfl) (by kernel_rfl) (decide_eq_false q2)) (by kernel_rfl) rfl rfl ?_
    refine W.sch_end (l' := [.slice A n c, .int .i64 lo, .int .i64 hi, undef, undef, undef, .bool false, (U0 7), (U0 8), .slice A n c, .int .i64 ((n : Nat) : Int), .int .i64 ((K : Nat) : Int), .bool false, (U0 13), (U0 14), (U0 15), (U0 16), (U0 17), (U0 18), (U0 19), (U0 20), (U0 21), (U0 22), (U0 23), (U0 24), (U0 25), (U0 26), (U0 27), (U0 28), (U0 29), (U0 30), (U0 31), (U0 32), (U0 33), (U0 34)]) (by kernel_rfl) ?_
    refine h5 _ _ ?_
    refine wp_seq_k (fun K12 h12 => ?_)
    refine wp_cond_false (by kernel_rfl) ?_
    refine wp_exit ?_
    refine h2 _ _ ?_
    refine wp_seq_k (fun K13 h13 => ?_)
    refine W.region_quiet [(0, false)] (by kernel_rfl) ?_
    refine W.sq (v := .bool true) rfl (r_assign rfl (by kernel_rfl)) (by kernel_rfl) rfl rfl ?_
    refine W.sch_end (l' := [.slice A n c, .int .i64 lo, .int .i64 hi, undef, undef, undef, .bool true, (U0 7), (U0 8), .slice A n c, .int .i64 ((n : Nat) : Int), .int .i64 ((K : Nat) : Int), .bool false, (U0 13), (U0 14), (U0 15), (U0 16), (U0 17), (U0 18), (U0 19), (U0 20), (U0 21), (U0 22), (U0 23), (U0 24), (U0 25), (U0 26), (U0 27), (U0 28), (U0 29), (U0 30), (U0 31), (U0 32), (U0 33), (U0 34)]) (by kernel_rfl) ?_
    refine h13 _ _ ?_
    refine wp_ret ?_
    try simp only [Exit.then]
    refine ret1 (v := .bool true) rfl (by kernel_rfl) ?_
    have e8 : riseL lo hi zs = true := by unfold riseL; rw [show zs.length = K by omega]; exact hok
    exact ⟨ret_bool e8.symm, c1⟩

set_option maxRecDepth 100000 in
set_option maxHeartbeats 1000000 in
theorem l1Rising_any (A : Option Addr) (n c : Nat) (zs : List Int) (lo hi : Int) (w : World) (ha : Rd w 1 A n (intsV zs)) (hn : n ≤ 1048576) :
    Calls Try.prog 94 #[.slice A n c, .int .i64 lo, .int .i64 hi] w fun e w' => e = .returned (.bool (riseL lo hi zs)) ∧ Below w.heap.size w w' := by
  have hl := rd_ints_len ha
  go_enter Try.func94, Try.ntmps94
  refine wp_seq_k (fun K1 h1 => ?_)
  refine W.region_quiet [(0, false)] (by kernel_rfl) ?_
  refine W.sq (v := .bool false) rfl (r_assign rfl (by kernel_rfl)) (by kernel_rfl) rfl rfl ?_
  refine W.sch_end (l' := [.slice A n c, .int .i64 lo, .int .i64 hi, undef, undef, undef, .bool false, undef, undef, undef, undef, undef, undef, undef, undef, undef, undef, undef, undef, undef, undef, undef, undef, undef, undef, undef, undef, undef, undef, undef, undef, undef, undef, undef, undef, undef, undef, undef]) (by kernel_rfl) ?_
  refine h1 _ _ ?_
  refine wp_seq_k (fun K2 h2 => ?_)
  refine wp_seq_k (fun K3 h3 => ?_)
  refine W.region_quiet [(0, false)] (by kernel_rfl) ?_
  refine W.sq (v := .int .i64 0) rfl (r_assign rfl (by kernel_rfl)) (by kernel_rfl) rfl rfl ?_
  refine W.sch_end (l' := [.slice A n c, .int .i64 lo, .int .i64 hi, undef, undef, undef, .bool false, .int .i64 0, undef, undef, undef, undef, undef, undef, undef, undef, undef, undef, undef, undef, undef, undef, undef, undef, undef, undef, undef, undef, undef, undef, undef, undef, undef, undef, undef, undef, undef, undef]) (by kernel_rfl) ?_
  refine h3 _ _ ?_
  refine wp_block ?_
  refine loopK (fun am0 aa0 wl0 => ∃ (K : Nat) (U0 : Nat → Value), aa0 = ⟨[.slice A n c, .int .i64 lo, .int .i64 hi, undef, undef, undef, .bool false, .int .i64 ((K : Nat) : Int), U0 8, U0 9, U0 10, U0 11, U0 12, U0 13, U0 14, U0 15, U0 16, U0 17, U0 18, U0 19, U0 20, U0 21, U0 22, U0 23, U0 24, U0 25, U0 26, U0 27, U0 28, U0 29, U0 30, U0 31, U0 32, U0 33, U0 34, U0 35, U0 36, U0 37].toArray, []⟩ ∧ (am0 = n - K) ∧ (K ≤ n) ∧ (riseTo lo hi zs K = true) ∧ (Below w.heap.size w wl0)) (n - 0) ?_ ?_
  · exact ⟨0, (fun iU9 => [.slice A n c, .int .i64 lo, .int .i64 hi, undef, undef, undef, .bool false, .int .i64 0, undef, undef, undef, undef, undef, undef, undef, undef, undef, undef, undef, undef, undef, undef, undef, undef, undef, undef, undef, undef, undef, undef, undef, undef, undef, undef, undef, undef, undef, undef].getD iU9 undef), (by kernel_rfl), rfl, (Nat.zero_le _), rfl, (Below.refl _ _)⟩
  rintro am0 aa0 wl0 K4 h4 ⟨K, U0, rfl, rfl, hk, hok, c1⟩
  refine wp_seq_k (fun K5 h5 => ?_)
  refine wp_seq_k (fun K6 h6 => ?_)
  refine W.region_quiet [(0, false), (1, false), (2, false), (3, false)] (by kernel_rfl) ?_
  refine W.sq (v := .int .i64 ((K : Nat) : Int)) rfl (r_move rfl (by kernel_rfl)) (by kernel_rfl) rfl rfl ?_
  refine W.sq (v := .slice A n c) rfl (r_move rfl (by kernel_rfl)) (by kernel_rfl) rfl rfl ?_
  refine W.sq (v := .int .i64 ((n : Nat) : Int)) rfl (r_len (A := A) (n := n) (c := c) rfl (by kernel_rfl) (by kernel_rfl)) (by kernel_rfl) rfl rfl ?_
  by_cases q2 : (((K : Nat) : Int) : Int) < (((n : Nat) : Int) : Int)
  · refine W.sq (v := .bool true) rfl (r_lss (m := ((K : Nat) : Int)) (n := ((n : Nat) : Int)) rfl (by kernel_rfl) (by kernel_rfl) (decide_eq_true q2)) (by kernel_rfl) rfl rfl ?_
    refine W.sch_endU (fun U3 => [.slice A n c, .int .i64 lo, .int .i64 hi, undef, undef, undef, .bool false, .int .i64 ((K : Nat) : Int), U3 8, U3 9, U3 10, .bool true, (U0 12), (U0 13), (U0 14), (U0 15), (U0 16), (U0 17), (U0 18), (U0 19), (U0 20), (U0 21), (U0 22), (U0 23), (U0 24), (U0 25), (U0 26), (U0 27), (U0 28), (U0 29), (U0 30), (U0 31), (U0 32), (U0 33), (U0 34), (U0 35), (U0 36), (U0 37)]) (by kernel_rfl) (fun U3 => ?_)
    refine h6 _ _ ?_
    refine wp_cond_true (by kernel_rfl) ?_
    refine wp_skip ?_
    refine h5 _ _ ?_
    refine wp_seq_k (fun K7 h7 => ?_)
    refine wp_block ?_
    refine wp_seq_k (fun K8 h8 => ?_)
    refine W.region_sch (row := none) (Sch.of [(0, false), (1, false), (2, false), (3, false), (4, false), (5, false), (6, true), (7, false), (8, false), (9, false), (10, false), (11, false), (12, false), (13, false), (14, false), (15, false), (16, false), (17, false), (18, false), (19, false), (20, false), (21, false), (22, false), (23, false)]) (by kernel_rfl) (by kernel_rfl) (fun _ d _ _ _ h => by cases d <;> exact h) (by kernel_rfl) (fun w4 e5 s6 => ?_)
    refine W.sq (v := .slice A n c) rfl (r_move rfl (by kernel_rfl)) (by kernel_rfl) rfl rfl ?_
    refine W.sq (v := .int .i64 ((K : Nat) : Int)) rfl (r_move rfl (by kernel_rfl)) (by kernel_rfl) rfl rfl ?_
    obtain ⟨x7, hx8⟩ := get_of (zs := zs) (k := K) (by have := hl; omega)
    obtain ⟨b9, o10, hA11, hb12, hc13⟩ := Rd.elInt ha hx8
    refine W.sq (v := .pointer (some ⟨b9, o10 + K, none⟩)) rfl (r_idx1 (n := n) (c := c) (k := K) rfl (by kernel_rfl) hA11 (by kernel_rfl) (by kernel_rfl) (by have := hl; omega)) (by kernel_rfl) rfl rfl ?_
    refine W.sq (v := .int .i64 x7) rfl (r_load rfl (by kernel_rfl) (by kernel_rfl) (sgS (later c1 hc13) (by simp))) (by kernel_rfl) rfl rfl ?_
    refine W.sq (v := .int .i64 lo) rfl (r_move rfl (by kernel_rfl)) (by kernel_rfl) rfl rfl ?_
    refine W.sq (v := .int .i64 hi) rfl (r_move rfl (by kernel_rfl)) (by kernel_rfl) rfl rfl ?_
    refine W.sc (vs := [.int .i64 x7, .int .i64 lo, .int .i64 hi]) rfl rfl (by kernel_rfl) (by kernel_rfl) (by kernel_rfl) rfl (l1In_any x7 lo hi _) ?_
    rintro e w' ⟨rfl, rfl⟩
    refine ⟨_, rfl, s6, ?_⟩
    rcases Bool.eq_false_or_eq_true (inB x7 lo hi) with q16 | q16
    · rw [q16]
      refine W.sq (v := .bool false) rfl (r_not (b := true) rfl (by kernel_rfl) rfl) (by kernel_rfl) rfl rfl ?_
      refine W.sq (v := .bool false) rfl (r_move rfl (by kernel_rfl)) (by kernel_rfl) rfl rfl ?_
      refine W.sq (v := .int .i64 ((K : Nat) : Int)) rfl (r_move rfl (by kernel_rfl)) (by kernel_rfl) rfl rfl ?_
      by_cases q17 : (((K : Nat) : Int) : Int) > (0 : Int)
      · obtain ⟨k, rfl⟩ : ∃ k, K = k + 1 := ⟨K - 1, by omega⟩
        refine W.sq (v := .bool true) rfl (r_gtr (m := (((k + 1) : Nat) : Int)) (n := 0) rfl (by kernel_rfl) (by kernel_rfl) (decide_eq_true q17)) (by kernel_rfl) rfl rfl ?_
        refine W.sq (v := .bool true) rfl (r_move rfl (by kernel_rfl)) (by kernel_rfl) rfl rfl ?_
        refine W.sq (v := .slice A n c) rfl (r_move rfl (by kernel_rfl)) (by kernel_rfl) rfl rfl ?_
        refine W.sq (v := .int .i64 (((k + 1) : Nat) : Int)) rfl (r_move rfl (by kernel_rfl)) (by kernel_rfl) rfl rfl ?_
        refine W.sq (v := .int .i64 ((k : Nat) : Int)) rfl (r_sub (m := (((k + 1) : Nat) : Int)) (n := 1) (z := ((k : Nat) : Int)) rfl (by kernel_rfl) (by kernel_rfl) (by omega) (by omega)) (by kernel_rfl) rfl rfl ?_
        obtain ⟨x18, hx19⟩ := get_of (zs := zs) (k := k) (by have := hl; omega)
        obtain ⟨b20, o21, hA22, hb23, hc24⟩ := Rd.elInt ha hx19
        refine W.sq (v := .pointer (some ⟨b20, o21 + k, none⟩)) rfl (r_idx1 (n := n) (c := c) (k := k) rfl (by kernel_rfl) hA22 (by kernel_rfl) (by kernel_rfl) (by have := hl; omega)) (by kernel_rfl) rfl rfl ?_
        refine W.sq (v := .int .i64 x18) rfl (r_load rfl (by kernel_rfl) (by kernel_rfl) (sgS (later c1 hc24) (by simp))) (by kernel_rfl) rfl rfl ?_
        refine W.sq (v := .slice A n c) rfl (r_move rfl (by kernel_rfl)) (by kernel_rfl) rfl rfl ?_
        refine W.sq (v := .int .i64 (((k + 1) : Nat) : Int)) rfl (r_move rfl (by kernel_rfl)) (by kernel_rfl) rfl rfl ?_
        refine W.sq (v := .pointer (some ⟨b9, o10 + (k + 1), none⟩)) rfl (r_idx1 (n := n) (c := c) (k := (k + 1)) rfl (by kernel_rfl) hA11 (by kernel_rfl) (by kernel_rfl) (by have := hl; omega)) (by kernel_rfl) rfl rfl ?_
        refine W.sq (v := .int .i64 x7) rfl (r_load rfl (by kernel_rfl) (by kernel_rfl) (sgS (later c1 hc13) (by simp))) (by kernel_rfl) rfl rfl ?_
        by_cases q25 : (x18 : Int) ≥ (x7 : Int)
        · refine W.sq (v := .bool true) rfl (r_geq (m := x18) (n := x7) rfl (by kernel_rfl) (by kernel_rfl) (decide_eq_true q25)) (by kernel_rfl) rfl rfl ?_
          refine W.sq (v := .bool true) rfl (r_pick (b := true) rfl (by kernel_rfl) (by kernel_rfl)) (by kernel_rfl) rfl rfl ?_
          refine W.sq (v := .bool true) rfl (r_pick (b := false) rfl (by kernel_rfl) (by kernel_rfl)) (by kernel_rfl) rfl rfl ?_
          refine W.sch_endU (fun U26 => [.slice A n c, .int .i64 lo, .int .i64 hi, undef, undef, undef, .bool false, .int .i64 (((k + 1) : Nat) : Int), (U3 8), (U3 9), (U3 10), .bool true, (U0 12), (U0 13), U26 14, U26 15, U26 16, U26 17, U26 18, U26 19, U26 20, U26 21, U26 22, U26 23, U26 24, U26 25, U26 26, U26 27, U26 28, U26 29, U26 30, U26 31, U26 32, U26 33, U26 34, U26 35, U26 36, .bool true]) (by kernel_rfl) (fun U26 => ?_)
          have c27 := (SG.belowR c1 s6 (fun kq e => by cases e))
          refine h8 _ _ ?_
          refine wp_cond_true (by kernel_rfl) ?_
          refine wp_seq_k (fun K9 h9 => ?_)
          refine W.region_quiet [(0, false)] (by kernel_rfl) ?_
          refine W.sq (v := .bool false) rfl (r_assign rfl (by kernel_rfl)) (by kernel_rfl) rfl rfl ?_
          refine W.sch_end (l' := [.slice A n c, .int .i64 lo, .int .i64 hi, undef, undef, undef, .bool false, .int .i64 (((k + 1) : Nat) : Int), (U3 8), (U3 9), (U3 10), .bool true, (U0 12), (U0 13), (U26 14), (U26 15), (U26 16), (U26 17), (U26 18), (U26 19), (U26 20), (U26 21), (U26 22), (U26 23), (U26 24), (U26 25), (U26 26), (U26 27), (U26 28), (U26 29), (U26 30), (U26 31), (U26 32), (U26 33), (U26 34), (U26 35), (U26 36), .bool true]) (by kernel_rfl) ?_
          refine h9 _ _ ?_
          refine wp_ret ?_
          try simp only [Exit.then, Exit.inBlock]
          refine ret1 (v := .bool false) rfl (by kernel_rfl) ?_
          have e8 : okI lo hi zs (k + 1) = false := (by rw [okI_next hx8 hx19, decide_eq_false (by omega), Bool.and_false])
          exact ⟨ret_bool (riseL_bad (k := k + 1) (by omega) e8).symm, c27⟩
        · refine W.sq (v := .bool false) rfl (r_geq (m := x18) (n := x7) rfl (by kernel_rfl) (by kernel_rfl) (decide_eq_false q25)) (by kernel_rfl) rfl rfl ?_
          refine W.sq (v := .bool false) rfl (r_pick (b := true) rfl (by kernel_rfl) (by kernel_rfl)) (by kernel_rfl) rfl rfl ?_
          refine W.sq (v := .bool false) rfl (r_pick (b := false) rfl (by kernel_rfl) (by kernel_rfl)) (by kernel_rfl) rfl rfl ?_
          refine W.sch_endU (fun U28 => [.slice A n c, .int .i64 lo, .int .i64 hi, undef, undef, undef, .bool false, .int .i64 (((k + 1) : Nat) : Int), (U3 8), (U3 9), (U3 10), .bool true, (U0 12), (U0 13), U28 14, U28 15, U28 16, U28 17, U28 18, U28 19, U28 20, U28 21, U28 22, U28 23, U28 24, U28 25, U28 26, U28 27, U28 28, U28 29, U28 30, U28 31, U28 32, U28 33, U28 34, U28 35, U28 36, .bool false]) (by kernel_rfl) (fun U28 => ?_)
          have c29 := (SG.belowR c1 s6 (fun kq e => by cases e))
          refine h8 _ _ ?_
          refine wp_cond_false (by kernel_rfl) ?_
          refine wp_skip ?_
          refine h7 _ _ ?_
          refine W.region_quiet [(0, false), (1, false), (2, false)] (by kernel_rfl) ?_
          refine W.sq (v := .int .i64 (((k + 1) : Nat) : Int)) rfl (r_move rfl (by kernel_rfl)) (by kernel_rfl) rfl rfl ?_
          refine W.sq (v := .int .i64 (((k + 1) + 1 : Nat) : Int)) rfl (r_add (m := (((k + 1) : Nat) : Int)) (n := 1) (z := (((k + 1) + 1 : Nat) : Int)) rfl (by kernel_rfl) (by kernel_rfl) (by omega) (by omega)) (by kernel_rfl) rfl rfl ?_
          refine W.sq (v := .int .i64 (((k + 1) + 1 : Nat) : Int)) rfl (r_assign rfl (by kernel_rfl)) (by kernel_rfl) rfl rfl ?_
          refine W.sch_endU (fun U30 => [.slice A n c, .int .i64 lo, .int .i64 hi, undef, undef, undef, .bool false, .int .i64 (((k + 1) + 1 : Nat) : Int), (U3 8), (U3 9), (U3 10), .bool true, U30 12, U30 13, (U28 14), (U28 15), (U28 16), (U28 17), (U28 18), (U28 19), (U28 20), (U28 21), (U28 22), (U28 23), (U28 24), (U28 25), (U28 26), (U28 27), (U28 28), (U28 29), (U28 30), (U28 31), (U28 32), (U28 33), (U28 34), (U28 35), (U28 36), .bool false]) (by kernel_rfl) (fun U30 => ?_)
          exact h4 _ _ _ (by omega : (n - (k + 1 + 1)) < _) ⟨k + 1 + 1, (fun iU9 => [.slice A n c, .int .i64 lo, .int .i64 hi, undef, undef, undef, .bool false, .int .i64 (((k + 1) + 1 : Nat) : Int), (U3 8), (U3 9), (U3 10), .bool true, (U30 12), (U30 13), (U28 14), (U28 15), (U28 16), (U28 17), (U28 18), (U28 19), (U28 20), (U28 21), (U28 22), (U28 23), (U28 24), (U28 25), (U28 26), (U28 27), (U28 28), (U28 29), (U28 30), (U28 31), (U28 32), (U28 33), (U28 34), (U28 35), (U28 36), .bool false].getD iU9 undef), (by kernel_rfl), rfl, (by omega), (riseTo_next hok (by rw [okI_next hx8 hx19, q16, decide_eq_true (by omega)]; rfl)), c29⟩
      · refine W.sq (v := .bool false) rfl (r_gtr (m := ((K : Nat) : Int)) (n := 0) rfl (by kernel_rfl) (by kernel_rfl) (decide_eq_false q17)) (by kernel_rfl) rfl rfl ?_
        refine W.sq (v := .bool false) rfl (r_move rfl (by kernel_rfl)) (by kernel_rfl) rfl rfl ?_
        refine W.sk s6 rfl (by kernel_rfl) rfl rfl ?_
        refine W.sk s6 rfl (by kernel_rfl) rfl rfl ?_
        refine W.sk s6 rfl (by kernel_rfl) rfl rfl ?_
        refine W.sk s6 rfl (by kernel_rfl) rfl rfl ?_
        refine W.sk s6 rfl (by kernel_rfl) rfl rfl ?_
        refine W.sk s6 rfl (by kernel_rfl) rfl rfl ?_
        refine W.sk s6 rfl (by kernel_rfl) rfl rfl ?_
        refine W.sk s6 rfl (by kernel_rfl) rfl rfl ?_
        refine W.sk s6 rfl (by kernel_rfl) rfl rfl ?_
        refine W.sk s6 rfl (by kernel_rfl) rfl rfl ?_
        refine W.sq (v := .bool false) rfl (r_pick (b := false) rfl (by kernel_rfl) (by kernel_rfl)) (by kernel_rfl) rfl rfl ?_
        refine W.sq (v := .bool false) rfl (r_pick (b := false) rfl (by kernel_rfl) (by kernel_rfl)) (by kernel_rfl) rfl rfl ?_
        refine W.sch_endU (fun U31 => [.slice A n c, .int .i64 lo, .int .i64 hi, undef, undef, undef, .bool false, .int .i64 ((K : Nat) : Int), (U3 8), (U3 9), (U3 10), .bool true, (U0 12), (U0 13), U31 14, U31 15, U31 16, U31 17, U31 18, U31 19, U31 20, U31 21, U31 22, U31 23, U31 24, U31 25, undef, undef, undef, undef, undef, undef, undef, undef, undef, undef, U31 36, .bool false]) (by kernel_rfl) (fun U31 => ?_)
        have c32 := (SG.belowR c1 s6 (fun kq e => by cases e))
        refine h8 _ _ ?_
        refine wp_cond_false (by kernel_rfl) ?_
        refine wp_skip ?_
        refine h7 _ _ ?_
        refine W.region_quiet [(0, false), (1, false), (2, false)] (by kernel_rfl) ?_
        refine W.sq (v := .int .i64 ((K : Nat) : Int)) rfl (r_move rfl (by kernel_rfl)) (by kernel_rfl) rfl rfl ?_
        refine W.sq (v := .int .i64 ((K + 1 : Nat) : Int)) rfl (r_add (m := ((K : Nat) : Int)) (n := 1) (z := ((K + 1 : Nat) : Int)) rfl (by kernel_rfl) (by kernel_rfl) (by omega) (by omega)) (by kernel_rfl) rfl rfl ?_
        refine W.sq (v := .int .i64 ((K + 1 : Nat) : Int)) rfl (r_assign rfl (by kernel_rfl)) (by kernel_rfl) rfl rfl ?_
        refine W.sch_endU (fun U33 => [.slice A n c, .int .i64 lo, .int .i64 hi, undef, undef, undef, .bool false, .int .i64 ((K + 1 : Nat) : Int), (U3 8), (U3 9), (U3 10), .bool true, U33 12, U33 13, (U31 14), (U31 15), (U31 16), (U31 17), (U31 18), (U31 19), (U31 20), (U31 21), (U31 22), (U31 23), (U31 24), (U31 25), undef, undef, undef, undef, undef, undef, undef, undef, undef, undef, (U31 36), .bool false]) (by kernel_rfl) (fun U33 => ?_)
        exact h4 _ _ _ (by omega : (n - (K + 1)) < _) ⟨K + 1, (fun iU9 => [.slice A n c, .int .i64 lo, .int .i64 hi, undef, undef, undef, .bool false, .int .i64 ((K + 1 : Nat) : Int), (U3 8), (U3 9), (U3 10), .bool true, (U33 12), (U33 13), (U31 14), (U31 15), (U31 16), (U31 17), (U31 18), (U31 19), (U31 20), (U31 21), (U31 22), (U31 23), (U31 24), (U31 25), undef, undef, undef, undef, undef, undef, undef, undef, undef, undef, (U31 36), .bool false].getD iU9 undef), (by kernel_rfl), rfl, (by omega), (riseTo_next hok (by have e0 : K = 0 := (by omega); subst e0; rw [okI_zero hx8]; exact q16)), c32⟩
    · rw [q16]
      refine W.sq (v := .bool true) rfl (r_not (b := false) rfl (by kernel_rfl) rfl) (by kernel_rfl) rfl rfl ?_
      refine W.sq (v := .bool true) rfl (r_move rfl (by kernel_rfl)) (by kernel_rfl) rfl rfl ?_
      refine W.sk s6 rfl (by kernel_rfl) rfl rfl ?_
      refine W.sk s6 rfl (by kernel_rfl) rfl rfl ?_
      refine W.sk s6 rfl (by kernel_rfl) rfl rfl ?_
      refine W.sk s6 rfl (by kernel_rfl) rfl rfl ?_
      refine W.sk s6 rfl (by kernel_rfl) rfl rfl ?_
      refine W.sk s6 rfl (by kernel_rfl) rfl rfl ?_
      refine W.sk s6 rfl (by kernel_rfl) rfl rfl ?_
      refine W.sk s6 rfl (by kernel_rfl) rfl rfl ?_
      refine W.sk s6 rfl (by kernel_rfl) rfl rfl ?_
      refine W.sk s6 rfl (by kernel_rfl) rfl rfl ?_
      refine W.sk s6 rfl (by kernel_rfl) rfl rfl ?_
      refine W.sk s6 rfl (by kernel_rfl) rfl rfl ?_
      refine W.sk s6 rfl (by kernel_rfl) rfl rfl ?_
      refine W.sk s6 rfl (by kernel_rfl) rfl rfl ?_
      refine W.sq (v := .bool true) rfl (r_pick (b := true) rfl (by kernel_rfl) (by kernel_rfl)) (by kernel_rfl) rfl rfl ?_
      refine W.sch_endU (fun U34 => [.slice A n c, .int .i64 lo, .int .i64 hi, undef, undef, undef, .bool false, .int .i64 ((K : Nat) : Int), (U3 8), (U3 9), (U3 10), .bool true, (U0 12), (U0 13), U34 14, U34 15, U34 16, U34 17, U34 18, U34 19, U34 20, U34 21, U34 22, undef, undef, undef, undef, undef, undef, undef, undef, undef, undef, undef, undef, undef, undef, .bool true]) (by kernel_rfl) (fun U34 => ?_)
      have c35 := (SG.belowR c1 s6 (fun kq e => by cases e))
      refine h8 _ _ ?_
      refine wp_cond_true (by kernel_rfl) ?_
      refine wp_seq_k (fun K10 h10 => ?_)
      refine W.region_quiet [(0, false)] (by kernel_rfl) ?_
      refine W.sq (v := .bool false) rfl (r_assign rfl (by kernel_rfl)) (by kernel_rfl) rfl rfl ?_
      refine W.sch_end (l' := [.slice A n c, .int .i64 lo, .int .i64 hi, undef, undef, undef, .bool false, .int .i64 ((K : Nat) : Int), (U3 8), (U3 9), (U3 10), .bool true, (U0 12), (U0 13), (U34 14), (U34 15), (U34 16), (U34 17), (U34 18), (U34 19), (U34 20), (U34 21), (U34 22), undef, undef, undef, undef, undef, undef, undef, undef, undef, undef, undef, undef, undef, undef, .bool true]) (by kernel_rfl) ?_
      refine h10 _ _ ?_
      refine wp_ret ?_
      try simp only [Exit.then, Exit.inBlock]
      refine ret1 (v := .bool false) rfl (by kernel_rfl) ?_
      have e8 : okI lo hi zs (K) = false := okI_out hx8 q16
      exact ⟨ret_bool (riseL_bad (k := K) (by omega) e8).symm, c35⟩
  · refine W.sq (v := .bool false) rfl (r_lss (m := ((K : Nat) : Int)) (n := ((n : Nat) : Int)) rfl (by kernel_rfl) (by kernel_rfl) (decide_eq_false q2)) (by kernel_rfl) rfl rfl ?_
    refine W.sch_endU (fun U36 => [.slice A n c, .int .i64 lo, .int .i64 hi, undef, undef, undef, .bool false, .int .i64 ((K : Nat) : Int), U36 8, U36 9, U36 10, .bool false, (U0 12), (U0 13), (U0 14), (U0 15), (U0 16), (U0 17), (U0 18), (U0 19), (U0 20), (U0 21), (U0 22), (U0 23), (U0 24), (U0 25), (U0 26), (U0 27), (U0 28), (U0 29), (U0 30), (U0 31), (U0 32), (U0 33), (U0 34), (U0 35), (U0 36), (U0 37)]) (by kernel_rfl) (fun U36 => ?_)
    refine h6 _ _ ?_
    refine wp_cond_false (by kernel_rfl) ?_
    refine wp_exit ?_
    refine h2 _ _ ?_
    refine wp_seq_k (fun K11 h11 => ?_)
    refine W.region_quiet [(0, false)] (by kernel_rfl) ?_
    refine W.sq (v := .bool true) rfl (r_assign rfl (by kernel_rfl)) (by kernel_rfl) rfl rfl ?_
    refine W.sch_end (l' := [.slice A n c, .int .i64 lo, .int .i64 hi, undef, undef, undef, .bool true, .int .i64 ((K : Nat) : Int), (U36 8), (U36 9), (U36 10), .bool false, (U0 12), (U0 13), (U0 14), (U0 15), (U0 16), (U0 17), (U0 18), (U0 19), (U0 20), (U0 21), (U0 22), (U0 23), (U0 24), (U0 25), (U0 26), (U0 27), (U0 28), (U0 29), (U0 30), (U0 31), (U0 32), (U0 33), (U0 34), (U0 35), (U0 36), (U0 37)]) (by kernel_rfl) ?_
    refine h11 _ _ ?_
    refine wp_ret ?_
    try simp only [Exit.then]
    refine ret1 (v := .bool true) rfl (by kernel_rfl) ?_
    have e8 : riseL lo hi zs = true := by unfold riseL; rw [show zs.length = K by omega]; exact hok
    exact ⟨ret_bool e8.symm, c1⟩

end Go.Proofs.Ytnfmdkbelbppdaa
