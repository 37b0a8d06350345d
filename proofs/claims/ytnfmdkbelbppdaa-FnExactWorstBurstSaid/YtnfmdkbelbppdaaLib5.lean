/- The library's functions over lists of numbers; rising lists. -/
import Derived.Test.YtnfmdkbelbppdaaBest
namespace Go.Proofs.Ytnfmdkbelbppdaa
open Go.RowKit
set_option linter.unusedVariables false
set_option linter.unusedSimpArgs false

/-- The index of the first number of a kind, -1 if there is none. -/
def idxI (q : Int → Bool) : List Int → Int
  | [] => -1
  | p :: ps => if q p = true then 0 else if idxI q ps < 0 then -1 else idxI q ps + 1
theorem idxI_at {q : Int → Bool} : ∀ {ps : List Int} {k : Nat} {x : Int}, (∀ j z, j < k → ps[j]? = some z → q z = false) → ps[k]? = some x → q x = true → idxI q ps = (k : Int)
  | [], k, x, _, hx, _ => by simp at hx
  | p :: ps, 0, x, _, hx, e => by simp at hx; subst hx; unfold idxI; rw [if_pos e]; rfl
  | p :: ps, k + 1, x, h, hx, e => by
    have h0 := h 0 p (by omega) rfl
    have ih := idxI_at (q := q) (ps := ps) (k := k) (fun j z hj hz => h (j + 1) z (by omega) (by simpa using hz)) (by simpa using hx) e
    unfold idxI; rw [if_neg (by rw [h0]; simp), ih, if_neg (by omega)]; omega
theorem idxI_none {q : Int → Bool} : ∀ {ps : List Int}, (∀ (j : Nat) z, j < ps.length → ps[j]? = some z → q z = false) → idxI q ps = -1
  | [], _ => rfl
  | p :: ps, h => by
    have h0 := h 0 p (by simp) rfl
    have ih := idxI_none (q := q) (ps := ps) (fun j z hj hz => h (j + 1) z (by simp; omega) (by simpa using hz))
    unfold idxI; rw [if_neg (by rw [h0]; simp), ih]; rfl
theorem idxI_pos (q : Int → Bool) (ps : List Int) : decide (0 ≤ idxI q ps) = ps.any q := by
  induction ps with
  | nil => rfl
  | cons p ps ih =>
    unfold idxI
    by_cases hp : q p = true
    · rw [if_pos hp]; simp [hp]
    · rw [if_neg hp]
      have hp' : q p = false := by simpa using hp
      rw [List.any_cons, hp', Bool.false_or, ← ih]
      by_cases h : idxI q ps < 0
      · rw [if_pos h]; exact decide_eq_decide.2 (by omega)
      · rw [if_neg h]; exact decide_eq_decide.2 (by omega)
theorem idxI_has (x : Int) (ps : List Int) : decide (0 ≤ idxI (fun z => decide (x = z)) ps) = ps.contains x := by
  rw [idxI_pos, Bool.eq_iff_iff, List.any_eq_true, List.contains_iff_mem]
  constructor
  · rintro ⟨z, hz, h⟩; simp at h; subst h; exact hz
  · intro h; exact ⟨x, h, by simp⟩
def cmpI (a b : Int) : Int := if a < b then -1 else if b < a then 1 else 0
theorem cmpL_take : ∀ {us ws : List Int} {k : Nat}, (∀ (j : Nat) x y, j < k → us[j]? = some x → ws[j]? = some y → x = y) → k ≤ us.length → k ≤ ws.length → cmpL us ws = cmpL (us.drop k) (ws.drop k)
  | us, ws, 0, _, _, _ => by simp
  | [], ws, k + 1, _, h, _ => by simp at h
  | a :: us, [], k + 1, _, _, h => by simp at h
  | a :: us, b :: ws, k + 1, h, h1, h2 => by
    have e : a = b := h 0 a b (by omega) rfl rfl
    have ih := cmpL_take (us := us) (ws := ws) (k := k) (fun j x y hj hx hy => h (j + 1) x y (by omega) (by simpa using hx) (by simpa using hy)) (by simpa using h1) (by simpa using h2)
    subst e
    rw [cmpL, if_neg (by omega), if_neg (by omega), ih]; rfl
theorem cmpL_ne {us ws : List Int} {k : Nat} {x y : Int} (h : ∀ (j : Nat) x y, j < k → us[j]? = some x → ws[j]? = some y → x = y) (hx : us[k]? = some x) (hy : ws[k]? = some y) (hne : cmpI x y ≠ 0) : cmpL us ws = cmpI x y := by
  have h1 := (List.getElem?_eq_some_iff.1 hx)
  have h2 := (List.getElem?_eq_some_iff.1 hy)
  obtain ⟨h1, e1⟩ := h1
  obtain ⟨h2, e2⟩ := h2
  rw [cmpL_take h (by omega) (by omega), List.drop_eq_getElem_cons h1, List.drop_eq_getElem_cons h2, e1, e2, cmpL]
  unfold cmpI at hne ⊢
  by_cases q1 : x < y
  · rw [if_pos q1, if_pos q1]
  · rw [if_neg q1, if_neg q1]
    by_cases q2 : y < x
    · rw [if_pos q2, if_pos q2]
    · rw [if_neg q1, if_neg q2] at hne; exact absurd rfl hne
theorem cmpI_zero {x y : Int} (h : cmpI x y = 0) : x = y := by
  unfold cmpI at h; split at h
  · omega
  · split at h <;> omega
theorem upto2 {us ws : List Int} {k : Nat} {x y : Int} (h : ∀ (j : Nat) x y, j < k → us[j]? = some x → ws[j]? = some y → x = y) (hx : us[k]? = some x) (hy : ws[k]? = some y) (e : cmpI x y = 0) : ∀ (j : Nat) x y, j < k + 1 → us[j]? = some x → ws[j]? = some y → x = y := fun j a b hj ha hb => by
  by_cases e1 : j = k
  · subst e1; rw [hx] at ha; rw [hy] at hb; cases ha; cases hb; exact cmpI_zero e
  · exact h j a b (by omega) ha hb
theorem cmpL_end {us ws : List Int} {k : Nat} (h : ∀ (j : Nat) x y, j < k → us[j]? = some x → ws[j]? = some y → x = y) (h1 : k ≤ us.length) (h2 : k ≤ ws.length) (he : us.length ≤ k ∨ ws.length ≤ k) :
    cmpL us ws = if us.length < ws.length then -1 else if ws.length < us.length then 1 else 0 := by
  rw [cmpL_take h h1 h2]
  by_cases q1 : us.length ≤ k
  · rw [List.drop_eq_nil_of_le q1]
    by_cases q2 : ws.length ≤ k
    · rw [List.drop_eq_nil_of_le q2, if_neg (by omega), if_neg (by omega)]; rfl
    · rw [if_pos (by omega), List.drop_eq_getElem_cons (by omega : k < ws.length)]; rfl
  · rw [if_neg (by omega), if_pos (by omega), List.drop_eq_getElem_cons (by omega : k < us.length), List.drop_eq_nil_of_le (by omega : ws.length ≤ k)]; rfl
/-- Rising, within bounds, up to k. -/
def okI (lo hi : Int) (zs : List Int) : Nat → Bool
  | 0 => match zs[0]? with | some z => inB z lo hi | none => true
  | k + 1 => match zs[k + 1]?, zs[k]? with | some z, some y => inB z lo hi && decide (y < z) | _, _ => true
def riseTo (lo hi : Int) (zs : List Int) : Nat → Bool
  | 0 => true
  | k + 1 => riseTo lo hi zs k && okI lo hi zs k
def riseL (lo hi : Int) (zs : List Int) : Bool := riseTo lo hi zs zs.length
theorem riseTo_bad {lo hi : Int} {zs : List Int} {k : Nat} (h : okI lo hi zs k = false) : ∀ n, k < n → riseTo lo hi zs n = false
  | 0, hk => absurd hk (by omega)
  | n + 1, hk => by
    by_cases e : k = n
    · subst e; unfold riseTo; rw [h]; simp
    · unfold riseTo; rw [riseTo_bad h n (by omega)]; rfl
theorem riseL_bad {lo hi : Int} {zs : List Int} {k : Nat} (hk : k < zs.length) (h : okI lo hi zs k = false) : riseL lo hi zs = false := riseTo_bad h _ hk
theorem riseTo_next {lo hi : Int} {zs : List Int} {k : Nat} (h : riseTo lo hi zs k = true) (h' : okI lo hi zs k = true) : riseTo lo hi zs (k + 1) = true := by unfold riseTo; rw [h, h']; rfl
theorem okI_zero {lo hi : Int} {zs : List Int} {z : Int} (h : zs[0]? = some z) : okI lo hi zs 0 = inB z lo hi := by unfold okI; rw [h]
theorem okI_next {lo hi : Int} {zs : List Int} {k : Nat} {z y : Int} (h : zs[k + 1]? = some z) (h' : zs[k]? = some y) : okI lo hi zs (k + 1) = (inB z lo hi && decide (y < z)) := by simp [okI, h, h']
theorem okI_out {lo hi : Int} {zs : List Int} {k : Nat} {z : Int} (h : zs[k]? = some z) (hz : inB z lo hi = false) : okI lo hi zs k = false := by
  rcases k with _ | k
  · rw [okI_zero h, hz]
  · have hk : k + 1 < zs.length := (List.getElem?_eq_some_iff.1 h).1
    have hy : zs[k]? = some zs[k] := List.getElem?_eq_getElem (by omega)
    rw [okI_next h hy, hz]; rfl

set_option maxRecDepth 100000 in
set_option maxHeartbeats 1000000 in
theorem slIndex_any (A : Option Addr) (n c : Nat) (zs : List Int) (x : Int) (w : World) (ha : Rd w 1 A n (intsV zs)) (hn : n ≤ 1048576) :
    Calls Try.prog 141 #[.slice A n c, .int .i64 x] w fun e w' => e = .returned (.int .i64 (idxI (fun z => decide (x = z)) zs)) ∧ Below w.heap.size w w' := by
  have hl := rd_ints_len ha
  go_enter Try.func141, Try.ntmps141
  refine wp_seq_k (fun K1 h1 => ?_)
  refine W.region_quiet [(0, false)] (by kernel_rfl) ?_
  refine W.as (v := .int .i64 0) (h := ?_)
  refine W.endF 19 [(0, .slice A n c), (1, .int .i64 x), (4, .int .i64 0)] (fun U1 => ?_)
  refine h1 _ _ ?_
  refine wp_seq_k (fun K2 h2 => ?_)
  refine wp_seq_k (fun K3 h3 => ?_)
  refine W.region_quiet [(0, false), (1, false), (2, false)] (by kernel_rfl) ?_
  refine W.mv (v := .slice A n c) (h := ?_)
  refine W.q (v := .int .i64 ((n : Nat) : Int)) (hr := (r_len (A := A) (n := n) (c := c) rfl (by kernel_rfl) (by kernel_rfl))) (h := ?_)
  refine W.mv (v := .int .i64 0) (h := ?_)
  refine W.endF 19 [(0, .slice A n c), (1, .int .i64 x), (4, .int .i64 0), (7, .int .i64 ((n : Nat) : Int)), (8, .int .i64 0)] (fun U2 => ?_)
  refine h3 _ _ ?_
  refine wp_block ?_
  refine loopK (fun am0 aa0 wl0 => ∃ (k : Nat) (U0 : Nat → Value), aa0 = ⟨(fr U0 [(0, .slice A n c), (1, .int .i64 x), (4, .int .i64 0), (7, .int .i64 ((n : Nat) : Int)), (8, .int .i64 ((k : Nat) : Int))] 19 0).toArray, []⟩ ∧ (am0 = n - k) ∧ (k ≤ n) ∧ (∀ j z, j < k → zs[j]? = some z → (fun z => decide (x = z)) z = false) ∧ (Below w.heap.size w wl0)) (n - 0) ?_ ?_
  · exact ⟨0, (fun iU9 => lk [(0, .slice A n c), (1, .int .i64 x), (4, .int .i64 0), (7, .int .i64 ((n : Nat) : Int)), (8, .int .i64 0)] iU9 (U2 iU9)), (by kernel_rfl), rfl, (Nat.zero_le _), (fun j z hj => absurd hj (by omega)), (Below.refl _ _)⟩
  rintro am0 aa0 wl0 K4 h4 ⟨k, U0, rfl, rfl, hk, hno, c3⟩
  refine wp_seq_k (fun K5 h5 => ?_)
  refine W.region_quiet [(0, false)] (by kernel_rfl) ?_
  by_cases q4 : (((k : Nat) : Int) : Int) < (((n : Nat) : Int) : Int)
  · refine W.q (v := .bool true) (hr := (r_lss (m := ((k : Nat) : Int)) (n := ((n : Nat) : Int)) rfl (by kernel_rfl) (by kernel_rfl) (decide_eq_true q4))) (h := ?_)
    refine W.endF 19 [(0, .slice A n c), (1, .int .i64 x), (4, .int .i64 0), (7, .int .i64 ((n : Nat) : Int)), (8, .int .i64 ((k : Nat) : Int)), (9, .bool true)] (fun U5 => ?_)
    refine h5 _ _ ?_
    refine wp_seq_k (fun K6 h6 => ?_)
    refine wp_cond_true (by kernel_rfl) ?_
    refine wp_skip ?_
    refine h6 _ _ ?_
    refine wp_seq_k (fun K7 h7 => ?_)
    refine wp_block ?_
    refine wp_seq_k (fun K8 h8 => ?_)
    refine W.region_quiet [(0, false), (1, false)] (by kernel_rfl) ?_
    refine W.mv (v := .int .i64 ((k : Nat) : Int)) (h := ?_)
    refine W.as (v := .int .i64 ((k : Nat) : Int)) (h := ?_)
    refine W.endF 19 [(0, .slice A n c), (1, .int .i64 x), (4, .int .i64 0), (5, .int .i64 ((k : Nat) : Int)), (7, .int .i64 ((n : Nat) : Int)), (8, .int .i64 ((k : Nat) : Int)), (9, .bool true)] (fun U6 => ?_)
    refine h8 _ _ ?_
    refine wp_seq_k (fun K9 h9 => ?_)
    refine W.region_quiet [(0, false), (1, false), (2, false), (3, false), (4, false), (5, false)] (by kernel_rfl) ?_
    refine W.mv (v := .int .i64 x) (h := ?_)
    refine W.mv (v := .slice A n c) (h := ?_)
    refine W.mv (v := .int .i64 ((k : Nat) : Int)) (h := ?_)
    obtain ⟨x7, hx8⟩ := get_of (zs := zs) (k := k) (by have := hl; omega)
    obtain ⟨b9, o10, hA11, hb12, hc13⟩ := Rd.elInt ha hx8
    refine W.q (v := .pointer (some ⟨b9, o10 + k, none⟩)) (hr := (r_idx1 (n := n) (c := c) (k := k) rfl (by kernel_rfl) hA11 (by kernel_rfl) (by kernel_rfl) (by have := hl; omega))) (h := ?_)
    refine W.ld (v := .int .i64 x7) (hc := (eqS (later c3 hc13))) (h := ?_)
    by_cases q14 : (x : Int) = (x7 : Int)
    · refine W.q (v := .bool true) (hr := (r_eql (m := x) (n := x7) rfl (by kernel_rfl) (by kernel_rfl) (decide_eq_true q14))) (h := ?_)
      refine W.endF 19 [(0, .slice A n c), (1, .int .i64 x), (4, .int .i64 0), (5, .int .i64 ((k : Nat) : Int)), (7, .int .i64 ((n : Nat) : Int)), (8, .int .i64 ((k : Nat) : Int)), (9, .bool true), (16, .bool true)] (fun U15 => ?_)
      refine h9 _ _ ?_
      refine wp_cond_true (by kernel_rfl) ?_
      refine wp_seq_k (fun K10 h10 => ?_)
      refine W.region_quiet [(0, false), (1, false)] (by kernel_rfl) ?_
      refine W.mv (v := .int .i64 ((k : Nat) : Int)) (h := ?_)
      refine W.as (v := .int .i64 ((k : Nat) : Int)) (h := ?_)
      refine W.endF 19 [(0, .slice A n c), (1, .int .i64 x), (4, .int .i64 ((k : Nat) : Int)), (5, .int .i64 ((k : Nat) : Int)), (7, .int .i64 ((n : Nat) : Int)), (8, .int .i64 ((k : Nat) : Int)), (9, .bool true), (16, .bool true)] (fun U16 => ?_)
      refine h10 _ _ ?_
      refine wp_ret ?_
      try simp only [Exit.then, Exit.inBlock]
      refine ret1 (v := .int .i64 ((k : Nat) : Int)) rfl (by kernel_rfl) ?_
      exact ⟨by rw [idxI_at (q := (fun z => decide (x = z))) hno hx8 (decide_eq_true (by omega))], c3⟩
    · refine W.q (v := .bool false) (hr := (r_eql (m := x) (n := x7) rfl (by kernel_rfl) (by kernel_rfl) (decide_eq_false q14))) (h := ?_)
      refine W.endF 19 [(0, .slice A n c), (1, .int .i64 x), (4, .int .i64 0), (5, .int .i64 ((k : Nat) : Int)), (7, .int .i64 ((n : Nat) : Int)), (8, .int .i64 ((k : Nat) : Int)), (9, .bool true), (16, .bool false)] (fun U17 => ?_)
      refine h9 _ _ ?_
      refine wp_cond_false (by kernel_rfl) ?_
      refine wp_skip ?_
      refine h7 _ _ ?_
      refine W.region_quiet [(0, false), (1, false)] (by kernel_rfl) ?_
      refine W.q (v := .int .i64 ((k + 1 : Nat) : Int)) (hr := (r_add (m := ((k : Nat) : Int)) (n := 1) (z := ((k + 1 : Nat) : Int)) rfl (by kernel_rfl) (by kernel_rfl) (by omega) (by omega))) (h := ?_)
      refine W.mv (v := .int .i64 ((k + 1 : Nat) : Int)) (h := ?_)
      refine W.endF 19 [(0, .slice A n c), (1, .int .i64 x), (4, .int .i64 0), (5, .int .i64 ((k : Nat) : Int)), (7, .int .i64 ((n : Nat) : Int)), (8, .int .i64 ((k + 1 : Nat) : Int)), (9, .bool true), (16, .bool false)] (fun U18 => ?_)
      exact h4 _ _ _ (by omega : (n - (k + 1)) < _) ⟨k + 1, (fun iU9 => lk [(0, .slice A n c), (1, .int .i64 x), (4, .int .i64 0), (5, .int .i64 ((k : Nat) : Int)), (7, .int .i64 ((n : Nat) : Int)), (8, .int .i64 ((k + 1 : Nat) : Int)), (9, .bool true), (16, .bool false)] iU9 (U18 iU9)), (by kernel_rfl), rfl, (by omega), (upto_succ (Q := fun z => (fun z => decide (x = z)) z = false) hno hx8 (decide_eq_false (by omega))), c3⟩
  · refine W.q (v := .bool false) (hr := (r_lss (m := ((k : Nat) : Int)) (n := ((n : Nat) : Int)) rfl (by kernel_rfl) (by kernel_rfl) (decide_eq_false q4))) (h := ?_)
    refine W.endF 19 [(0, .slice A n c), (1, .int .i64 x), (4, .int .i64 0), (7, .int .i64 ((n : Nat) : Int)), (8, .int .i64 ((k : Nat) : Int)), (9, .bool false)] (fun U19 => ?_)
    refine h5 _ _ ?_
    refine wp_seq_k (fun K11 h11 => ?_)
    refine wp_cond_false (by kernel_rfl) ?_
    refine wp_exit ?_
    refine h2 _ _ ?_
    refine wp_seq_k (fun K12 h12 => ?_)
    refine W.region_quiet [(0, false)] (by kernel_rfl) ?_
    refine W.as (v := .int .i64 (-1)) (h := ?_)
    refine W.endF 19 [(0, .slice A n c), (1, .int .i64 x), (4, .int .i64 (-1)), (7, .int .i64 ((n : Nat) : Int)), (8, .int .i64 ((k : Nat) : Int)), (9, .bool false)] (fun U20 => ?_)
    refine h12 _ _ ?_
    refine wp_ret ?_
    try simp only [Exit.then]
    refine ret1 (v := .int .i64 (-1)) rfl (by kernel_rfl) ?_
    exact ⟨by rw [idxI_none (q := (fun z => decide (x = z))) (fun j z hj => hno j z (by omega))], c3⟩

set_option maxRecDepth 100000 in
set_option maxHeartbeats 1000000 in
theorem slContains_any (A : Option Addr) (n c : Nat) (zs : List Int) (x : Int) (w : World) (ha : Rd w 1 A n (intsV zs)) (hn : n ≤ 1048576) :
    Calls Try.prog 131 #[.slice A n c, .int .i64 x] w fun e w' => e = .returned (.bool (zs.contains x)) ∧ Below w.heap.size w w' := by
  have hl := rd_ints_len ha
  go_enter Try.func131, Try.ntmps131
  refine wp_seq_k (fun K1 h1 => ?_)
  refine W.region_quiet [(0, false)] (by kernel_rfl) ?_
  refine W.as (v := .bool false) (h := ?_)
  refine W.endF 9 [(0, .slice A n c), (1, .int .i64 x), (4, .bool false)] (fun U1 => ?_)
  refine h1 _ _ ?_
  refine wp_seq_k (fun K2 h2 => ?_)
  refine W.region_plain (row := none) [(0, false), (1, false), (2, true), (3, false), (4, false)] (by kernel_rfl) ?_
  have s2 := SG.self w none
  refine W.mv (v := .slice A n c) (h := ?_)
  refine W.mv (v := .int .i64 x) (h := ?_)
  refine W.sc (vs := [.slice A n c, .int .i64 x]) rfl rfl (by kernel_rfl) (by kernel_rfl) (by kernel_rfl) rfl (slIndex_any A n c zs x _ (Rd.kept ha (SG.belowR (Below.refl _ _) s2 (fun kq e => by cases e))) (by omega)) ?_
  rintro e w4 ⟨rfl, b3⟩
  have s5 := SG.of_below s2 b3
  refine ⟨_, rfl, s5, ?_⟩
  by_cases q6 : (idxI (fun z => decide (x = z)) zs : Int) ≥ (0 : Int)
  · refine W.q (v := .bool true) (hr := (r_geq (m := idxI (fun z => decide (x = z)) zs) (n := 0) rfl (by kernel_rfl) (by kernel_rfl) (decide_eq_true q6))) (h := ?_)
    refine W.as (v := .bool true) (h := ?_)
    refine W.endF 9 [(0, .slice A n c), (1, .int .i64 x), (4, .bool true)] (fun U7 => ?_)
    have c8 := (SG.belowR (Below.refl _ _) s5 (fun kq e => by cases e))
    refine h2 _ _ ?_
    refine wp_ret ?_
    try simp only [Exit.then]
    refine ret1 (v := .bool true) rfl (by kernel_rfl) ?_
    exact ⟨by rw [← idxI_has, decide_eq_true q6], c8⟩
  · refine W.q (v := .bool false) (hr := (r_geq (m := idxI (fun z => decide (x = z)) zs) (n := 0) rfl (by kernel_rfl) (by kernel_rfl) (decide_eq_false q6))) (h := ?_)
    refine W.as (v := .bool false) (h := ?_)
    refine W.endF 9 [(0, .slice A n c), (1, .int .i64 x), (4, .bool false)] (fun U9 => ?_)
    have c10 := (SG.belowR (Below.refl _ _) s5 (fun kq e => by cases e))
    refine h2 _ _ ?_
    refine wp_ret ?_
    try simp only [Exit.then]
    refine ret1 (v := .bool false) rfl (by kernel_rfl) ?_
    exact ⟨by rw [← idxI_has, decide_eq_false q6], c10⟩

set_option maxRecDepth 100000 in
set_option maxHeartbeats 1000000 in
theorem isNaN_any (a : Int) (w : World) :
    Calls Try.prog 142 #[.int .i64 a] w fun e w' => e = .returned (.bool false) ∧ w = w' := by
  go_enter Try.func142, Try.ntmps142
  refine wp_seq_k (fun K1 h1 => ?_)
  refine W.region_quiet [(0, false)] (by kernel_rfl) ?_
  refine W.as (v := .bool false) (h := ?_)
  refine W.endF 6 [(0, .int .i64 a), (2, .bool false)] (fun U1 => ?_)
  refine h1 _ _ ?_
  refine wp_seq_k (fun K2 h2 => ?_)
  refine W.region_quiet [(0, false), (1, false), (2, false), (3, false)] (by kernel_rfl) ?_
  refine W.mv (v := .int .i64 a) (h := ?_)
  refine W.mv (v := .int .i64 a) (h := ?_)
  refine W.q (v := .bool false) (hr := (r_neq (m := a) (n := a) rfl (by kernel_rfl) (by kernel_rfl) (decide_eq_false (fun h => h rfl)))) (h := ?_)
  refine W.as (v := .bool false) (h := ?_)
  refine W.endF 6 [(0, .int .i64 a), (2, .bool false)] (fun U2 => ?_)
  refine h2 _ _ ?_
  refine wp_ret ?_
  try simp only [Exit.then]
  refine ret1 (v := .bool false) rfl (by kernel_rfl) ?_
  exact ⟨rfl, rfl⟩

set_option maxRecDepth 100000 in
set_option maxHeartbeats 1000000 in
theorem cmpI_any (a b : Int) (w : World) :
    Calls Try.prog 132 #[.int .i64 a, .int .i64 b] w fun e w' => e = .returned (.int .i64 (cmpI a b)) ∧ Below w.heap.size w w' := by
  go_enter Try.func132, Try.ntmps132
  refine wp_seq_k (fun K1 h1 => ?_)
  refine W.region_quiet [(0, false)] (by kernel_rfl) ?_
  refine W.as (v := .int .i64 0) (h := ?_)
  refine W.endF 20 [(0, .int .i64 a), (1, .int .i64 b), (4, .int .i64 0)] (fun U1 => ?_)
  refine h1 _ _ ?_
  refine wp_seq_k (fun K2 h2 => ?_)
  refine W.region_plain (row := none) [(0, false), (1, true), (2, false)] (by kernel_rfl) ?_
  have s2 := SG.self w none
  refine W.mv (v := .int .i64 a) (h := ?_)
  refine W.sc (vs := [.int .i64 a]) rfl rfl (by kernel_rfl) (by kernel_rfl) (by kernel_rfl) rfl (isNaN_any a _) ?_
  rintro e w' ⟨rfl, rfl⟩
  refine ⟨_, rfl, s2, ?_⟩
  refine W.as (v := .bool false) (h := ?_)
  refine W.endF 20 [(0, .int .i64 a), (1, .int .i64 b), (4, .int .i64 0), (5, .bool false)] (fun U5 => ?_)
  have c6 := (SG.belowR (Below.refl _ _) s2 (fun kq e => by cases e))
  refine h2 _ _ ?_
  refine wp_seq_k (fun K3 h3 => ?_)
  refine W.region_plain (row := none) [(0, false), (1, true), (2, false)] (by kernel_rfl) ?_
  have s7 := SG.self w none
  refine W.mv (v := .int .i64 b) (h := ?_)
  refine W.sc (vs := [.int .i64 b]) rfl rfl (by kernel_rfl) (by kernel_rfl) (by kernel_rfl) rfl (isNaN_any b _) ?_
  rintro e w' ⟨rfl, rfl⟩
  refine ⟨_, rfl, s7, ?_⟩
  refine W.as (v := .bool false) (h := ?_)
  refine W.endF 20 [(0, .int .i64 a), (1, .int .i64 b), (4, .int .i64 0), (5, .bool false), (6, .bool false)] (fun U10 => ?_)
  have c11 := (SG.belowR c6 s7 (fun kq e => by cases e))
  refine h3 _ _ ?_
  refine wp_seq_k (fun K4 h4 => ?_)
  refine wp_seq_k (fun K5 h5 => ?_)
  refine W.region_quiet [(0, false)] (by kernel_rfl) ?_
  refine W.mv (v := .bool false) (h := ?_)
  refine W.endF 20 [(0, .int .i64 a), (1, .int .i64 b), (4, .int .i64 0), (5, .bool false), (6, .bool false), (11, .bool false)] (fun U12 => ?_)
  refine h5 _ _ ?_
  refine wp_cond_false (by kernel_rfl) ?_
  refine wp_skip ?_
  refine h4 _ _ ?_
  refine wp_seq_k (fun K6 h6 => ?_)
  refine wp_seq_k (fun K7 h7 => ?_)
  refine W.region_quiet [(0, false)] (by kernel_rfl) ?_
  refine W.mv (v := .bool false) (h := ?_)
  refine W.endF 20 [(0, .int .i64 a), (1, .int .i64 b), (4, .int .i64 0), (5, .bool false), (6, .bool false), (11, .bool false), (13, .bool false)] (fun U13 => ?_)
  refine h7 _ _ ?_
  refine wp_cond_false (by kernel_rfl) ?_
  refine wp_skip ?_
  refine h6 _ _ ?_
  refine wp_seq_k (fun K8 h8 => ?_)
  refine wp_seq_k (fun K9 h9 => ?_)
  refine W.region_quiet [(0, false), (1, false), (2, false)] (by kernel_rfl) ?_
  refine W.mv (v := .int .i64 a) (h := ?_)
  refine W.mv (v := .int .i64 b) (h := ?_)
  by_cases q14 : (a : Int) < (b : Int)
  · refine W.q (v := .bool true) (hr := (r_lss (m := a) (n := b) rfl (by kernel_rfl) (by kernel_rfl) (decide_eq_true q14))) (h := ?_)
    refine W.endF 20 [(0, .int .i64 a), (1, .int .i64 b), (4, .int .i64 0), (5, .bool false), (6, .bool false), (11, .bool false), (13, .bool false), (16, .bool true)] (fun U15 => ?_)
    refine h9 _ _ ?_
    refine wp_cond_true (by kernel_rfl) ?_
    refine wp_seq_k (fun K10 h10 => ?_)
    refine W.region_quiet [(0, false)] (by kernel_rfl) ?_
    refine W.as (v := .int .i64 (-1)) (h := ?_)
    refine W.endF 20 [(0, .int .i64 a), (1, .int .i64 b), (4, .int .i64 (-1)), (5, .bool false), (6, .bool false), (11, .bool false), (13, .bool false), (16, .bool true)] (fun U16 => ?_)
    refine h10 _ _ ?_
    refine wp_ret ?_
    try simp only [Exit.then]
    refine ret1 (v := .int .i64 (-1)) rfl (by kernel_rfl) ?_
    exact ⟨by unfold cmpI; rw [if_pos (by omega)], c11⟩
  · refine W.q (v := .bool false) (hr := (r_lss (m := a) (n := b) rfl (by kernel_rfl) (by kernel_rfl) (decide_eq_false q14))) (h := ?_)
    refine W.endF 20 [(0, .int .i64 a), (1, .int .i64 b), (4, .int .i64 0), (5, .bool false), (6, .bool false), (11, .bool false), (13, .bool false), (16, .bool false)] (fun U17 => ?_)
    refine h9 _ _ ?_
    refine wp_cond_false (by kernel_rfl) ?_
    refine wp_skip ?_
    refine h8 _ _ ?_
    refine wp_seq_k (fun K11 h11 => ?_)
    refine wp_seq_k (fun K12 h12 => ?_)
    refine W.region_quiet [(0, false), (1, false), (2, false)] (by kernel_rfl) ?_
    refine W.mv (v := .int .i64 a) (h := ?_)
    refine W.mv (v := .int .i64 b) (h := ?_)
    by_cases q18 : (a : Int) > (b : Int)
    · refine W.q (v := .bool true) (hr := (r_gtr (m := a) (n := b) rfl (by kernel_rfl) (by kernel_rfl) (decide_eq_true q18))) (h := ?_)
      refine W.endF 20 [(0, .int .i64 a), (1, .int .i64 b), (4, .int .i64 0), (5, .bool false), (6, .bool false), (11, .bool false), (13, .bool false), (16, .bool false), (19, .bool true)] (fun U19 => ?_)
      refine h12 _ _ ?_
      refine wp_cond_true (by kernel_rfl) ?_
      refine wp_seq_k (fun K13 h13 => ?_)
      refine W.region_quiet [(0, false)] (by kernel_rfl) ?_
      refine W.as (v := .int .i64 1) (h := ?_)
      refine W.endF 20 [(0, .int .i64 a), (1, .int .i64 b), (4, .int .i64 1), (5, .bool false), (6, .bool false), (11, .bool false), (13, .bool false), (16, .bool false), (19, .bool true)] (fun U20 => ?_)
      refine h13 _ _ ?_
      refine wp_ret ?_
      try simp only [Exit.then]
      refine ret1 (v := .int .i64 1) rfl (by kernel_rfl) ?_
      exact ⟨by unfold cmpI; rw [if_neg (by omega), if_pos (by omega)], c11⟩
    · refine W.q (v := .bool false) (hr := (r_gtr (m := a) (n := b) rfl (by kernel_rfl) (by kernel_rfl) (decide_eq_false q18))) (h := ?_)
      refine W.endF 20 [(0, .int .i64 a), (1, .int .i64 b), (4, .int .i64 0), (5, .bool false), (6, .bool false), (11, .bool false), (13, .bool false), (16, .bool false), (19, .bool false)] (fun U21 => ?_)
      refine h12 _ _ ?_
      refine wp_cond_false (by kernel_rfl) ?_
      refine wp_skip ?_
      refine h11 _ _ ?_
      refine wp_seq_k (fun K14 h14 => ?_)
      refine W.region_quiet [(0, false)] (by kernel_rfl) ?_
      refine W.as (v := .int .i64 0) (h := ?_)
      refine W.endF 20 [(0, .int .i64 a), (1, .int .i64 b), (4, .int .i64 0), (5, .bool false), (6, .bool false), (11, .bool false), (13, .bool false), (16, .bool false), (19, .bool false)] (fun U22 => ?_)
      refine h14 _ _ ?_
      refine wp_ret ?_
      try simp only [Exit.then]
      refine ret1 (v := .int .i64 0) rfl (by kernel_rfl) ?_
      exact ⟨by unfold cmpI; rw [if_neg (by omega), if_neg (by omega)], c11⟩

set_option maxRecDepth 100000 in
set_option maxHeartbeats 1000000 in
theorem slCompare_any (A : Option Addr) (n c : Nat) (zs : List Int) (A2 : Option Addr) (n2 c2 : Nat) (ys : List Int) (w : World) (ha : Rd w 1 A n (intsV zs)) (hn : n ≤ 1048576) (hb : Rd w 1 A2 n2 (intsV ys)) (hn2 : n2 ≤ 1048576) :
    Calls Try.prog 105 #[.slice A n c, .slice A2 n2 c2] w fun e w' => e = .returned (.int .i64 (cmpL zs ys)) ∧ Below w.heap.size w w' := by
  have hl := rd_ints_len ha
  have hl2 := rd_ints_len hb
  go_enter Try.func105, Try.ntmps105
  refine wp_seq_k (fun K1 h1 => ?_)
  refine W.region_quiet [(0, false)] (by kernel_rfl) ?_
  refine W.as (v := .int .i64 0) (h := ?_)
  refine W.endF 36 [(0, .slice A n c), (1, .slice A2 n2 c2), (4, .int .i64 0)] (fun U1 => ?_)
  refine h1 _ _ ?_
  refine wp_seq_k (fun K2 h2 => ?_)
  refine wp_seq_k (fun K3 h3 => ?_)
  refine W.region_quiet [(0, false), (1, false), (2, false)] (by kernel_rfl) ?_
  refine W.mv (v := .slice A n c) (h := ?_)
  refine W.q (v := .int .i64 ((n : Nat) : Int)) (hr := (r_len (A := A) (n := n) (c := c) rfl (by kernel_rfl) (by kernel_rfl))) (h := ?_)
  refine W.mv (v := .int .i64 0) (h := ?_)
  refine W.endF 36 [(0, .slice A n c), (1, .slice A2 n2 c2), (4, .int .i64 0), (9, .slice A n c), (10, .int .i64 ((n : Nat) : Int)), (11, .int .i64 0)] (fun U2 => ?_)
  refine h3 _ _ ?_
  refine wp_block ?_
  refine loopK (fun am0 aa0 wl0 => ∃ (k : Nat) (U0 : Nat → Value), aa0 = ⟨(fr U0 [(0, .slice A n c), (1, .slice A2 n2 c2), (4, .int .i64 0), (9, .slice A n c), (10, .int .i64 ((n : Nat) : Int)), (11, .int .i64 ((k : Nat) : Int))] 36 0).toArray, []⟩ ∧ (am0 = n - k) ∧ (k ≤ n) ∧ (k ≤ n2) ∧ (∀ (j : Nat) x y, j < k → zs[j]? = some x → ys[j]? = some y → x = y) ∧ (Below w.heap.size w wl0)) (n - 0) ?_ ?_
  · exact ⟨0, (fun iU9 => lk [(0, .slice A n c), (1, .slice A2 n2 c2), (4, .int .i64 0), (9, .slice A n c), (10, .int .i64 ((n : Nat) : Int)), (11, .int .i64 0)] iU9 (U2 iU9)), (by kernel_rfl), rfl, (Nat.zero_le _), (Nat.zero_le _), (fun j x y hj => absurd hj (by omega)), (Below.refl _ _)⟩
  rintro am0 aa0 wl0 K4 h4 ⟨k, U0, rfl, rfl, hk, hk2, heq, c3⟩
  refine wp_seq_k (fun K5 h5 => ?_)
  refine W.region_quiet [(0, false)] (by kernel_rfl) ?_
  by_cases q4 : (((k : Nat) : Int) : Int) < (((n : Nat) : Int) : Int)
  · refine W.q (v := .bool true) (hr := (r_lss (m := ((k : Nat) : Int)) (n := ((n : Nat) : Int)) rfl (by kernel_rfl) (by kernel_rfl) (decide_eq_true q4))) (h := ?_)
    refine W.endF 36 [(0, .slice A n c), (1, .slice A2 n2 c2), (4, .int .i64 0), (9, .slice A n c), (10, .int .i64 ((n : Nat) : Int)), (11, .int .i64 ((k : Nat) : Int)), (12, .bool true)] (fun U5 => ?_)
    refine h5 _ _ ?_
    refine wp_seq_k (fun K6 h6 => ?_)
    refine wp_cond_true (by kernel_rfl) ?_
    refine wp_skip ?_
    refine h6 _ _ ?_
    refine wp_seq_k (fun K7 h7 => ?_)
    refine wp_block ?_
    refine wp_seq_k (fun K8 h8 => ?_)
    refine W.region_quiet [(0, false), (1, false), (2, false), (3, false), (4, false)] (by kernel_rfl) ?_
    refine W.mv (v := .int .i64 ((k : Nat) : Int)) (h := ?_)
    obtain ⟨x6, hx7⟩ := get_of (zs := zs) (k := k) (by have := hl; omega)
    obtain ⟨b8, o9, hA10, hb11, hc12⟩ := Rd.elInt ha hx7
    refine W.q (v := .pointer (some ⟨b8, o9 + k, none⟩)) (hr := (r_idx1 (n := n) (c := c) (k := k) rfl (by kernel_rfl) hA10 (by kernel_rfl) (by kernel_rfl) (by have := hl; omega))) (h := ?_)
    refine W.ld (v := .int .i64 x6) (hc := (eqS (later c3 hc12))) (h := ?_)
    refine W.as (v := .int .i64 ((k : Nat) : Int)) (h := ?_)
    refine W.as (v := .int .i64 x6) (h := ?_)
    refine W.endF 36 [(0, .slice A n c), (1, .slice A2 n2 c2), (4, .int .i64 0), (5, .int .i64 ((k : Nat) : Int)), (6, .int .i64 x6), (9, .slice A n c), (10, .int .i64 ((n : Nat) : Int)), (11, .int .i64 ((k : Nat) : Int)), (12, .bool true)] (fun U13 => ?_)
    refine h8 _ _ ?_
    refine wp_seq_k (fun K9 h9 => ?_)
    refine wp_seq_k (fun K10 h10 => ?_)
    refine W.region_quiet [(0, false), (1, false), (2, false), (3, false)] (by kernel_rfl) ?_
    refine W.mv (v := .int .i64 ((k : Nat) : Int)) (h := ?_)
    refine W.mv (v := .slice A2 n2 c2) (h := ?_)
    refine W.q (v := .int .i64 ((n2 : Nat) : Int)) (hr := (r_len (A := A2) (n := n2) (c := c2) rfl (by kernel_rfl) (by kernel_rfl))) (h := ?_)
    by_cases q14 : (((k : Nat) : Int) : Int) ≥ (((n2 : Nat) : Int) : Int)
    · refine W.q (v := .bool true) (hr := (r_geq (m := ((k : Nat) : Int)) (n := ((n2 : Nat) : Int)) rfl (by kernel_rfl) (by kernel_rfl) (decide_eq_true q14))) (h := ?_)
      refine W.endF 36 [(0, .slice A n c), (1, .slice A2 n2 c2), (4, .int .i64 0), (5, .int .i64 ((k : Nat) : Int)), (6, .int .i64 x6), (9, .slice A n c), (10, .int .i64 ((n : Nat) : Int)), (11, .int .i64 ((k : Nat) : Int)), (12, .bool true), (19, .bool true)] (fun U15 => ?_)
      refine h10 _ _ ?_
      refine wp_cond_true (by kernel_rfl) ?_
      refine wp_seq_k (fun K11 h11 => ?_)
      refine W.region_quiet [(0, false)] (by kernel_rfl) ?_
      refine W.as (v := .int .i64 1) (h := ?_)
      refine W.endF 36 [(0, .slice A n c), (1, .slice A2 n2 c2), (4, .int .i64 1), (5, .int .i64 ((k : Nat) : Int)), (6, .int .i64 x6), (9, .slice A n c), (10, .int .i64 ((n : Nat) : Int)), (11, .int .i64 ((k : Nat) : Int)), (12, .bool true), (19, .bool true)] (fun U16 => ?_)
      refine h11 _ _ ?_
      refine wp_ret ?_
      try simp only [Exit.then, Exit.inBlock]
      refine ret1 (v := .int .i64 1) rfl (by kernel_rfl) ?_
      exact ⟨by rw [cmpL_end heq (by omega) (by omega) (by omega), if_neg (by omega), if_pos (by omega)], c3⟩
    · refine W.q (v := .bool false) (hr := (r_geq (m := ((k : Nat) : Int)) (n := ((n2 : Nat) : Int)) rfl (by kernel_rfl) (by kernel_rfl) (decide_eq_false q14))) (h := ?_)
      refine W.endF 36 [(0, .slice A n c), (1, .slice A2 n2 c2), (4, .int .i64 0), (5, .int .i64 ((k : Nat) : Int)), (6, .int .i64 x6), (9, .slice A n c), (10, .int .i64 ((n : Nat) : Int)), (11, .int .i64 ((k : Nat) : Int)), (12, .bool true), (19, .bool false)] (fun U17 => ?_)
      refine h10 _ _ ?_
      refine wp_cond_false (by kernel_rfl) ?_
      refine wp_skip ?_
      refine h9 _ _ ?_
      refine wp_seq_k (fun K12 h12 => ?_)
      refine W.region_quiet [(0, false), (1, false), (2, false), (3, false), (4, false)] (by kernel_rfl) ?_
      refine W.mv (v := .slice A2 n2 c2) (h := ?_)
      refine W.mv (v := .int .i64 ((k : Nat) : Int)) (h := ?_)
      obtain ⟨x18, hx19⟩ := get_of (zs := ys) (k := k) (by have := hl2; omega)
      obtain ⟨b20, o21, hA22, hb23, hc24⟩ := Rd.elInt hb hx19
      refine W.q (v := .pointer (some ⟨b20, o21 + k, none⟩)) (hr := (r_idx1 (n := n2) (c := c2) (k := k) rfl (by kernel_rfl) hA22 (by kernel_rfl) (by kernel_rfl) (by have := hl2; omega))) (h := ?_)
      refine W.ld (v := .int .i64 x18) (hc := (eqS (later c3 hc24))) (h := ?_)
      refine W.as (v := .int .i64 x18) (h := ?_)
      refine W.endF 36 [(0, .slice A n c), (1, .slice A2 n2 c2), (4, .int .i64 0), (5, .int .i64 ((k : Nat) : Int)), (6, .int .i64 x6), (7, .int .i64 x18), (9, .slice A n c), (10, .int .i64 ((n : Nat) : Int)), (11, .int .i64 ((k : Nat) : Int)), (12, .bool true), (19, .bool false)] (fun U25 => ?_)
      refine h12 _ _ ?_
      refine wp_seq_k (fun K13 h13 => ?_)
      refine W.region_plain (row := none) [(0, false), (1, false), (2, true), (3, false)] (by kernel_rfl) ?_
      have s26 := SG.self wl0 none
      refine W.mv (v := .int .i64 x6) (h := ?_)
      refine W.mv (v := .int .i64 x18) (h := ?_)
      refine W.sc (vs := [.int .i64 x6, .int .i64 x18]) rfl rfl (by kernel_rfl) (by kernel_rfl) (by kernel_rfl) rfl (cmpI_any x6 x18 _) ?_
      rintro e w28 ⟨rfl, b27⟩
      have s29 := SG.of_below s26 b27
      refine ⟨_, rfl, s29, ?_⟩
      refine W.as (v := .int .i64 (cmpI x6 x18)) (h := ?_)
      refine W.endF 36 [(0, .slice A n c), (1, .slice A2 n2 c2), (4, .int .i64 0), (5, .int .i64 ((k : Nat) : Int)), (6, .int .i64 x6), (7, .int .i64 x18), (8, .int .i64 (cmpI x6 x18)), (9, .slice A n c), (10, .int .i64 ((n : Nat) : Int)), (11, .int .i64 ((k : Nat) : Int)), (12, .bool true), (19, .bool false)] (fun U30 => ?_)
      have c31 := (SG.belowR c3 s29 (fun kq e => by cases e))
      refine h13 _ _ ?_
      refine wp_seq_k (fun K14 h14 => ?_)
      refine W.region_quiet [(0, false), (1, false)] (by kernel_rfl) ?_
      refine W.mv (v := .int .i64 (cmpI x6 x18)) (h := ?_)
      by_cases q32 : (cmpI x6 x18 : Int) ≠ (0 : Int)
      · refine W.q (v := .bool true) (hr := (r_neq (m := cmpI x6 x18) (n := 0) rfl (by kernel_rfl) (by kernel_rfl) (decide_eq_true q32))) (h := ?_)
        refine W.endF 36 [(0, .slice A n c), (1, .slice A2 n2 c2), (4, .int .i64 0), (5, .int .i64 ((k : Nat) : Int)), (6, .int .i64 x6), (7, .int .i64 x18), (8, .int .i64 (cmpI x6 x18)), (9, .slice A n c), (10, .int .i64 ((n : Nat) : Int)), (11, .int .i64 ((k : Nat) : Int)), (12, .bool true), (19, .bool false), (28, .bool true)] (fun U33 => ?_)
        refine h14 _ _ ?_
        refine wp_cond_true (by kernel_rfl) ?_
        refine wp_seq_k (fun K15 h15 => ?_)
        refine W.region_quiet [(0, false), (1, false)] (by kernel_rfl) ?_
        refine W.mv (v := .int .i64 (cmpI x6 x18)) (h := ?_)
        refine W.as (v := .int .i64 (cmpI x6 x18)) (h := ?_)
        refine W.endF 36 [(0, .slice A n c), (1, .slice A2 n2 c2), (4, .int .i64 (cmpI x6 x18)), (5, .int .i64 ((k : Nat) : Int)), (6, .int .i64 x6), (7, .int .i64 x18), (8, .int .i64 (cmpI x6 x18)), (9, .slice A n c), (10, .int .i64 ((n : Nat) : Int)), (11, .int .i64 ((k : Nat) : Int)), (12, .bool true), (19, .bool false), (28, .bool true)] (fun U34 => ?_)
        refine h15 _ _ ?_
        refine wp_ret ?_
        try simp only [Exit.then, Exit.inBlock]
        refine ret1 (v := .int .i64 (cmpI x6 x18)) rfl (by kernel_rfl) ?_
        exact ⟨by rw [cmpL_ne heq hx7 hx19 (by omega)], c31⟩
      · refine W.q (v := .bool false) (hr := (r_neq (m := cmpI x6 x18) (n := 0) rfl (by kernel_rfl) (by kernel_rfl) (decide_eq_false q32))) (h := ?_)
        refine W.endF 36 [(0, .slice A n c), (1, .slice A2 n2 c2), (4, .int .i64 0), (5, .int .i64 ((k : Nat) : Int)), (6, .int .i64 x6), (7, .int .i64 x18), (8, .int .i64 (cmpI x6 x18)), (9, .slice A n c), (10, .int .i64 ((n : Nat) : Int)), (11, .int .i64 ((k : Nat) : Int)), (12, .bool true), (19, .bool false), (28, .bool false)] (fun U35 => ?_)
        refine h14 _ _ ?_
        refine wp_cond_false (by kernel_rfl) ?_
        refine wp_skip ?_
        refine h7 _ _ ?_
        refine W.region_quiet [(0, false), (1, false)] (by kernel_rfl) ?_
        refine W.q (v := .int .i64 ((k + 1 : Nat) : Int)) (hr := (r_add (m := ((k : Nat) : Int)) (n := 1) (z := ((k + 1 : Nat) : Int)) rfl (by kernel_rfl) (by kernel_rfl) (by omega) (by omega))) (h := ?_)
        refine W.mv (v := .int .i64 ((k + 1 : Nat) : Int)) (h := ?_)
        refine W.endF 36 [(0, .slice A n c), (1, .slice A2 n2 c2), (4, .int .i64 0), (5, .int .i64 ((k : Nat) : Int)), (6, .int .i64 x6), (7, .int .i64 x18), (8, .int .i64 (cmpI x6 x18)), (9, .slice A n c), (10, .int .i64 ((n : Nat) : Int)), (11, .int .i64 ((k + 1 : Nat) : Int)), (12, .bool true), (19, .bool false), (28, .bool false)] (fun U36 => ?_)
        exact h4 _ _ _ (by omega : (n - (k + 1)) < _) ⟨k + 1, (fun iU9 => lk [(0, .slice A n c), (1, .slice A2 n2 c2), (4, .int .i64 0), (5, .int .i64 ((k : Nat) : Int)), (6, .int .i64 x6), (7, .int .i64 x18), (8, .int .i64 (cmpI x6 x18)), (9, .slice A n c), (10, .int .i64 ((n : Nat) : Int)), (11, .int .i64 ((k + 1 : Nat) : Int)), (12, .bool true), (19, .bool false), (28, .bool false)] iU9 (U36 iU9)), (by kernel_rfl), rfl, (by omega), (by omega), (upto2 heq hx7 hx19 (by omega)), c31⟩
  · refine W.q (v := .bool false) (hr := (r_lss (m := ((k : Nat) : Int)) (n := ((n : Nat) : Int)) rfl (by kernel_rfl) (by kernel_rfl) (decide_eq_false q4))) (h := ?_)
    refine W.endF 36 [(0, .slice A n c), (1, .slice A2 n2 c2), (4, .int .i64 0), (9, .slice A n c), (10, .int .i64 ((n : Nat) : Int)), (11, .int .i64 ((k : Nat) : Int)), (12, .bool false)] (fun U37 => ?_)
    refine h5 _ _ ?_
    refine wp_seq_k (fun K16 h16 => ?_)
    refine wp_cond_false (by kernel_rfl) ?_
    refine wp_exit ?_
    refine h2 _ _ ?_
    refine wp_seq_k (fun K17 h17 => ?_)
    refine wp_seq_k (fun K18 h18 => ?_)
    refine W.region_quiet [(0, false), (1, false), (2, false), (3, false), (4, false)] (by kernel_rfl) ?_
    refine W.mv (v := .slice A n c) (h := ?_)
    refine W.q (v := .int .i64 ((n : Nat) : Int)) (hr := (r_len (A := A) (n := n) (c := c) rfl (by kernel_rfl) (by kernel_rfl))) (h := ?_)
    refine W.mv (v := .slice A2 n2 c2) (h := ?_)
    refine W.q (v := .int .i64 ((n2 : Nat) : Int)) (hr := (r_len (A := A2) (n := n2) (c := c2) rfl (by kernel_rfl) (by kernel_rfl))) (h := ?_)
    by_cases q38 : (((n : Nat) : Int) : Int) < (((n2 : Nat) : Int) : Int)
    · refine W.q (v := .bool true) (hr := (r_lss (m := ((n : Nat) : Int)) (n := ((n2 : Nat) : Int)) rfl (by kernel_rfl) (by kernel_rfl) (decide_eq_true q38))) (h := ?_)
      refine W.endF 36 [(0, .slice A n c), (1, .slice A2 n2 c2), (4, .int .i64 0), (9, .slice A n c), (10, .int .i64 ((n : Nat) : Int)), (11, .int .i64 ((k : Nat) : Int)), (12, .bool false), (35, .bool true)] (fun U39 => ?_)
      refine h18 _ _ ?_
      refine wp_cond_true (by kernel_rfl) ?_
      refine wp_seq_k (fun K19 h19 => ?_)
      refine W.region_quiet [(0, false)] (by kernel_rfl) ?_
      refine W.as (v := .int .i64 (-1)) (h := ?_)
      refine W.endF 36 [(0, .slice A n c), (1, .slice A2 n2 c2), (4, .int .i64 (-1)), (9, .slice A n c), (10, .int .i64 ((n : Nat) : Int)), (11, .int .i64 ((k : Nat) : Int)), (12, .bool false), (35, .bool true)] (fun U40 => ?_)
      refine h19 _ _ ?_
      refine wp_ret ?_
      try simp only [Exit.then]
      refine ret1 (v := .int .i64 (-1)) rfl (by kernel_rfl) ?_
      exact ⟨by rw [cmpL_end heq (by omega) (by omega) (by omega), if_pos (by omega)], c3⟩
    · refine W.q (v := .bool false) (hr := (r_lss (m := ((n : Nat) : Int)) (n := ((n2 : Nat) : Int)) rfl (by kernel_rfl) (by kernel_rfl) (decide_eq_false q38))) (h := ?_)
      refine W.endF 36 [(0, .slice A n c), (1, .slice A2 n2 c2), (4, .int .i64 0), (9, .slice A n c), (10, .int .i64 ((n : Nat) : Int)), (11, .int .i64 ((k : Nat) : Int)), (12, .bool false), (35, .bool false)] (fun U41 => ?_)
      refine h18 _ _ ?_
      refine wp_cond_false (by kernel_rfl) ?_
      refine wp_skip ?_
      refine h17 _ _ ?_
      refine wp_seq_k (fun K20 h20 => ?_)
      refine W.region_quiet [(0, false)] (by kernel_rfl) ?_
      refine W.as (v := .int .i64 0) (h := ?_)
      refine W.endF 36 [(0, .slice A n c), (1, .slice A2 n2 c2), (4, .int .i64 0), (9, .slice A n c), (10, .int .i64 ((n : Nat) : Int)), (11, .int .i64 ((k : Nat) : Int)), (12, .bool false), (35, .bool false)] (fun U42 => ?_)
      refine h20 _ _ ?_
      refine wp_ret ?_
      try simp only [Exit.then]
      refine ret1 (v := .int .i64 0) rfl (by kernel_rfl) ?_
      exact ⟨by rw [cmpL_end heq (by omega) (by omega) (by omega), if_neg (by omega), if_neg (by omega)], c3⟩

set_option maxRecDepth 100000 in
set_option maxHeartbeats 1000000 in
theorem slIndexFunc_any (A : Option Addr) (n c : Nat) (zs : List Int) (g : FuncId) (lb : Array Value) (q : Int → Bool) (w : World) (ha : Rd w 1 A n (intsV zs)) (hn : n ≤ 1048576) (he : enters Try.prog g = true) (HG : ∀ W (z : Int), Below w.heap.size w W → Calls Try.prog g (#[.int .i64 z] ++ lb) W fun e w' => e = .returned (.bool (q z)) ∧ Below W.heap.size W w') :
    Calls Try.prog 134 #[.slice A n c, .func (.func g) #[] lb] w fun e w' => e = .returned (.int .i64 (idxI q zs)) ∧ Below w.heap.size w w' := by
  have hl := rd_ints_len ha
  go_enter Try.func134, Try.ntmps134
  refine wp_seq_k (fun K1 h1 => ?_)
  refine W.region_quiet [(0, false)] (by kernel_rfl) ?_
  refine W.as (v := .int .i64 0) (h := ?_)
  refine W.endF 19 [(0, .slice A n c), (1, .func (.func g) #[] lb), (4, .int .i64 0)] (fun U1 => ?_)
  refine h1 _ _ ?_
  refine wp_seq_k (fun K2 h2 => ?_)
  refine wp_seq_k (fun K3 h3 => ?_)
  refine W.region_quiet [(0, false), (1, false), (2, false)] (by kernel_rfl) ?_
  refine W.mv (v := .slice A n c) (h := ?_)
  refine W.q (v := .int .i64 ((n : Nat) : Int)) (hr := (r_len (A := A) (n := n) (c := c) rfl (by kernel_rfl) (by kernel_rfl))) (h := ?_)
  refine W.mv (v := .int .i64 0) (h := ?_)
  refine W.endF 19 [(0, .slice A n c), (1, .func (.func g) #[] lb), (4, .int .i64 0), (7, .int .i64 ((n : Nat) : Int)), (8, .int .i64 0)] (fun U2 => ?_)
  refine h3 _ _ ?_
  refine wp_block ?_
  refine loopK (fun am0 aa0 wl0 => ∃ (k : Nat) (U0 : Nat → Value), aa0 = ⟨(fr U0 [(0, .slice A n c), (1, .func (.func g) #[] lb), (4, .int .i64 0), (7, .int .i64 ((n : Nat) : Int)), (8, .int .i64 ((k : Nat) : Int))] 19 0).toArray, []⟩ ∧ (am0 = n - k) ∧ (k ≤ n) ∧ (∀ j z, j < k → zs[j]? = some z → q z = false) ∧ (Below w.heap.size w wl0)) (n - 0) ?_ ?_
  · exact ⟨0, (fun iU9 => lk [(0, .slice A n c), (1, .func (.func g) #[] lb), (4, .int .i64 0), (7, .int .i64 ((n : Nat) : Int)), (8, .int .i64 0)] iU9 (U2 iU9)), (by kernel_rfl), rfl, (Nat.zero_le _), (fun j z hj => absurd hj (by omega)), (Below.refl _ _)⟩
  rintro am0 aa0 wl0 K4 h4 ⟨k, U0, rfl, rfl, hk, hno, c3⟩
  refine wp_seq_k (fun K5 h5 => ?_)
  refine W.region_quiet [(0, false)] (by kernel_rfl) ?_
  by_cases q4 : (((k : Nat) : Int) : Int) < (((n : Nat) : Int) : Int)
  · refine W.q (v := .bool true) (hr := (r_lss (m := ((k : Nat) : Int)) (n := ((n : Nat) : Int)) rfl (by kernel_rfl) (by kernel_rfl) (decide_eq_true q4))) (h := ?_)
    refine W.endF 19 [(0, .slice A n c), (1, .func (.func g) #[] lb), (4, .int .i64 0), (7, .int .i64 ((n : Nat) : Int)), (8, .int .i64 ((k : Nat) : Int)), (9, .bool true)] (fun U5 => ?_)
    refine h5 _ _ ?_
    refine wp_seq_k (fun K6 h6 => ?_)
    refine wp_cond_true (by kernel_rfl) ?_
    refine wp_skip ?_
    refine h6 _ _ ?_
    refine wp_seq_k (fun K7 h7 => ?_)
    refine wp_block ?_
    refine wp_seq_k (fun K8 h8 => ?_)
    refine W.region_quiet [(0, false), (1, false)] (by kernel_rfl) ?_
    refine W.mv (v := .int .i64 ((k : Nat) : Int)) (h := ?_)
    refine W.as (v := .int .i64 ((k : Nat) : Int)) (h := ?_)
    refine W.endF 19 [(0, .slice A n c), (1, .func (.func g) #[] lb), (4, .int .i64 0), (5, .int .i64 ((k : Nat) : Int)), (7, .int .i64 ((n : Nat) : Int)), (8, .int .i64 ((k : Nat) : Int)), (9, .bool true)] (fun U6 => ?_)
    refine h8 _ _ ?_
    refine wp_seq_k (fun K9 h9 => ?_)
    refine W.region_plain (row := none) [(0, false), (1, false), (2, false), (3, false), (4, false), (5, true)] (by kernel_rfl) ?_
    have s7 := SG.self wl0 none
    refine W.mv (v := .func (.func g) #[] lb) (h := ?_)
    refine W.mv (v := .slice A n c) (h := ?_)
    refine W.mv (v := .int .i64 ((k : Nat) : Int)) (h := ?_)
    obtain ⟨x8, hx9⟩ := get_of (zs := zs) (k := k) (by have := hl; omega)
    obtain ⟨b10, o11, hA12, hb13, hc14⟩ := Rd.elInt ha hx9
    refine W.q (v := .pointer (some ⟨b10, o11 + k, none⟩)) (hr := (r_idx1 (n := n) (c := c) (k := k) rfl (by kernel_rfl) hA12 (by kernel_rfl) (by kernel_rfl) (by have := hl; omega))) (h := ?_)
    refine W.ld (v := .int .i64 x8) (hc := (sgS (later c3 hc14) (by simp))) (h := ?_)
    refine W.scv (vs := [.int .i64 x8]) (g := g) (lb := lb) rfl rfl (by kernel_rfl) (by kernel_rfl) he (by kernel_rfl) rfl (HG _ x8 ((SG.belowR c3 s7 (fun kq e => by cases e)))) ?_
    rintro e w16 ⟨rfl, b15⟩
    have s17 := SG.of_below s7 b15
    refine ⟨_, rfl, s17, ?_⟩
    rcases Bool.eq_false_or_eq_true (q x8) with q18 | q18
    · rw [q18]
      refine W.endF 19 [(0, .slice A n c), (1, .func (.func g) #[] lb), (4, .int .i64 0), (5, .int .i64 ((k : Nat) : Int)), (7, .int .i64 ((n : Nat) : Int)), (8, .int .i64 ((k : Nat) : Int)), (9, .bool true), (16, .bool true)] (fun U19 => ?_)
      have c20 := (SG.belowR c3 s17 (fun kq e => by cases e))
      refine h9 _ _ ?_
      refine wp_cond_true (by kernel_rfl) ?_
      refine wp_seq_k (fun K10 h10 => ?_)
      refine W.region_quiet [(0, false), (1, false)] (by kernel_rfl) ?_
      refine W.mv (v := .int .i64 ((k : Nat) : Int)) (h := ?_)
      refine W.as (v := .int .i64 ((k : Nat) : Int)) (h := ?_)
      refine W.endF 19 [(0, .slice A n c), (1, .func (.func g) #[] lb), (4, .int .i64 ((k : Nat) : Int)), (5, .int .i64 ((k : Nat) : Int)), (7, .int .i64 ((n : Nat) : Int)), (8, .int .i64 ((k : Nat) : Int)), (9, .bool true), (16, .bool true)] (fun U21 => ?_)
      refine h10 _ _ ?_
      refine wp_ret ?_
      try simp only [Exit.then, Exit.inBlock]
      refine ret1 (v := .int .i64 ((k : Nat) : Int)) rfl (by kernel_rfl) ?_
      exact ⟨by rw [idxI_at hno hx9 q18], c20⟩
    · rw [q18]
      refine W.endF 19 [(0, .slice A n c), (1, .func (.func g) #[] lb), (4, .int .i64 0), (5, .int .i64 ((k : Nat) : Int)), (7, .int .i64 ((n : Nat) : Int)), (8, .int .i64 ((k : Nat) : Int)), (9, .bool true), (16, .bool false)] (fun U22 => ?_)
      have c23 := (SG.belowR c3 s17 (fun kq e => by cases e))
      refine h9 _ _ ?_
      refine wp_cond_false (by kernel_rfl) ?_
      refine wp_skip ?_
      refine h7 _ _ ?_
      refine W.region_quiet [(0, false), (1, false)] (by kernel_rfl) ?_
      refine W.q (v := .int .i64 ((k + 1 : Nat) : Int)) (hr := (r_add (m := ((k : Nat) : Int)) (n := 1) (z := ((k + 1 : Nat) : Int)) rfl (by kernel_rfl) (by kernel_rfl) (by omega) (by omega))) (h := ?_)
      refine W.mv (v := .int .i64 ((k + 1 : Nat) : Int)) (h := ?_)
      refine W.endF 19 [(0, .slice A n c), (1, .func (.func g) #[] lb), (4, .int .i64 0), (5, .int .i64 ((k : Nat) : Int)), (7, .int .i64 ((n : Nat) : Int)), (8, .int .i64 ((k + 1 : Nat) : Int)), (9, .bool true), (16, .bool false)] (fun U24 => ?_)
      exact h4 _ _ _ (by omega : (n - (k + 1)) < _) ⟨k + 1, (fun iU9 => lk [(0, .slice A n c), (1, .func (.func g) #[] lb), (4, .int .i64 0), (5, .int .i64 ((k : Nat) : Int)), (7, .int .i64 ((n : Nat) : Int)), (8, .int .i64 ((k + 1 : Nat) : Int)), (9, .bool true), (16, .bool false)] iU9 (U24 iU9)), (by kernel_rfl), rfl, (by omega), (upto_succ (Q := fun z => q z = false) hno hx9 q18), c23⟩
  · refine W.q (v := .bool false) (hr := (r_lss (m := ((k : Nat) : Int)) (n := ((n : Nat) : Int)) rfl (by kernel_rfl) (by kernel_rfl) (decide_eq_false q4))) (h := ?_)
    refine W.endF 19 [(0, .slice A n c), (1, .func (.func g) #[] lb), (4, .int .i64 0), (7, .int .i64 ((n : Nat) : Int)), (8, .int .i64 ((k : Nat) : Int)), (9, .bool false)] (fun U25 => ?_)
    refine h5 _ _ ?_
    refine wp_seq_k (fun K11 h11 => ?_)
    refine wp_cond_false (by kernel_rfl) ?_
    refine wp_exit ?_
    refine h2 _ _ ?_
    refine wp_seq_k (fun K12 h12 => ?_)
    refine W.region_quiet [(0, false)] (by kernel_rfl) ?_
    refine W.as (v := .int .i64 (-1)) (h := ?_)
    refine W.endF 19 [(0, .slice A n c), (1, .func (.func g) #[] lb), (4, .int .i64 (-1)), (7, .int .i64 ((n : Nat) : Int)), (8, .int .i64 ((k : Nat) : Int)), (9, .bool false)] (fun U26 => ?_)
    refine h12 _ _ ?_
    refine wp_ret ?_
    try simp only [Exit.then]
    refine ret1 (v := .int .i64 (-1)) rfl (by kernel_rfl) ?_
    exact ⟨by rw [idxI_none (fun j z hj => hno j z (by omega))], c3⟩

set_option maxRecDepth 100000 in
set_option maxHeartbeats 1000000 in
theorem slContainsFunc_any (A : Option Addr) (n c : Nat) (zs : List Int) (g : FuncId) (lb : Array Value) (q : Int → Bool) (w : World) (ha : Rd w 1 A n (intsV zs)) (hn : n ≤ 1048576) (he : enters Try.prog g = true) (HG : ∀ W (z : Int), Below w.heap.size w W → Calls Try.prog g (#[.int .i64 z] ++ lb) W fun e w' => e = .returned (.bool (q z)) ∧ Below W.heap.size W w') :
    Calls Try.prog 109 #[.slice A n c, .func (.func g) #[] lb] w fun e w' => e = .returned (.bool (zs.any q)) ∧ Below w.heap.size w w' := by
  have hl := rd_ints_len ha
  go_enter Try.func109, Try.ntmps109
  refine wp_seq_k (fun K1 h1 => ?_)
  refine W.region_quiet [(0, false)] (by kernel_rfl) ?_
  refine W.as (v := .bool false) (h := ?_)
  refine W.endF 9 [(0, .slice A n c), (1, .func (.func g) #[] lb), (4, .bool false)] (fun U1 => ?_)
  refine h1 _ _ ?_
  refine wp_seq_k (fun K2 h2 => ?_)
  refine W.region_plain (row := none) [(0, false), (1, false), (2, true), (3, false), (4, false)] (by kernel_rfl) ?_
  have s2 := SG.self w none
  refine W.mv (v := .slice A n c) (h := ?_)
  refine W.mv (v := .func (.func g) #[] lb) (h := ?_)
  refine W.sc (vs := [.slice A n c, .func (.func g) #[] lb]) rfl rfl (by kernel_rfl) (by kernel_rfl) (by kernel_rfl) rfl (slIndexFunc_any A n c zs g lb q _ (Rd.kept ha (SG.belowR (Below.refl _ _) s2 (fun kq e => by cases e))) (by omega) he (fun W v hW => HG W v (((SG.belowR (Below.refl _ _) s2 (fun kq e => by cases e))).trans (hW.mono ((SG.belowR (Below.refl _ _) s2 (fun kq e => by cases e))).size)))) ?_
  rintro e w4 ⟨rfl, b3⟩
  have s5 := SG.of_below s2 b3
  refine ⟨_, rfl, s5, ?_⟩
  by_cases q6 : (idxI q zs : Int) ≥ (0 : Int)
  · refine W.q (v := .bool true) (hr := (r_geq (m := idxI q zs) (n := 0) rfl (by kernel_rfl) (by kernel_rfl) (decide_eq_true q6))) (h := ?_)
    refine W.as (v := .bool true) (h := ?_)
    refine W.endF 9 [(0, .slice A n c), (1, .func (.func g) #[] lb), (4, .bool true)] (fun U7 => ?_)
    have c8 := (SG.belowR (Below.refl _ _) s5 (fun kq e => by cases e))
    refine h2 _ _ ?_
    refine wp_ret ?_
    try simp only [Exit.then]
    refine ret1 (v := .bool true) rfl (by kernel_rfl) ?_
    exact ⟨by rw [← idxI_pos, decide_eq_true q6], c8⟩
  · refine W.q (v := .bool false) (hr := (r_geq (m := idxI q zs) (n := 0) rfl (by kernel_rfl) (by kernel_rfl) (decide_eq_false q6))) (h := ?_)
    refine W.as (v := .bool false) (h := ?_)
    refine W.endF 9 [(0, .slice A n c), (1, .func (.func g) #[] lb), (4, .bool false)] (fun U9 => ?_)
    have c10 := (SG.belowR (Below.refl _ _) s5 (fun kq e => by cases e))
    refine h2 _ _ ?_
    refine wp_ret ?_
    try simp only [Exit.then]
    refine ret1 (v := .bool false) rfl (by kernel_rfl) ?_
    exact ⟨by rw [← idxI_pos, decide_eq_false q6], c10⟩

set_option maxRecDepth 100000 in
set_option maxHeartbeats 1000000 in
theorem ascending_any (A : Option Addr) (n c : Nat) (zs : List Int) (lo hi : Int) (w : World) (ha : Rd w 1 A n (intsV zs)) (hn : n ≤ 1048576) :
    Calls Try.prog 57 #[.slice A n c, .int .i64 lo, .int .i64 hi] w fun e w' => e = .returned (.bool (riseL lo hi zs)) ∧ Below w.heap.size w w' := by
  have hl := rd_ints_len ha
  go_enter Try.func57, Try.ntmps57
  refine wp_seq_k (fun K1 h1 => ?_)
  refine W.region_quiet [(0, false)] (by kernel_rfl) ?_
  refine W.as (v := .bool false) (h := ?_)
  refine W.endF 35 [(0, .slice A n c), (1, .int .i64 lo), (2, .int .i64 hi), (6, .bool false)] (fun U1 => ?_)
  refine h1 _ _ ?_
  refine wp_seq_k (fun K2 h2 => ?_)
  refine wp_seq_k (fun K3 h3 => ?_)
  refine W.region_quiet [(0, false), (1, false), (2, false)] (by kernel_rfl) ?_
  refine W.mv (v := .slice A n c) (h := ?_)
  refine W.q (v := .int .i64 ((n : Nat) : Int)) (hr := (r_len (A := A) (n := n) (c := c) rfl (by kernel_rfl) (by kernel_rfl))) (h := ?_)
  refine W.mv (v := .int .i64 0) (h := ?_)
  refine W.endF 35 [(0, .slice A n c), (1, .int .i64 lo), (2, .int .i64 hi), (6, .bool false), (9, .slice A n c), (10, .int .i64 ((n : Nat) : Int)), (11, .int .i64 0)] (fun U2 => ?_)
  refine h3 _ _ ?_
  refine wp_block ?_
  refine loopK (fun am0 aa0 wl0 => ∃ (K : Nat) (U0 : Nat → Value), aa0 = ⟨(fr U0 [(0, .slice A n c), (1, .int .i64 lo), (2, .int .i64 hi), (6, .bool false), (9, .slice A n c), (10, .int .i64 ((n : Nat) : Int)), (11, .int .i64 ((K : Nat) : Int))] 35 0).toArray, []⟩ ∧ (am0 = n - K) ∧ (K ≤ n) ∧ (riseTo lo hi zs K = true) ∧ (Below w.heap.size w wl0)) (n - 0) ?_ ?_
  · exact ⟨0, (fun iU9 => lk [(0, .slice A n c), (1, .int .i64 lo), (2, .int .i64 hi), (6, .bool false), (9, .slice A n c), (10, .int .i64 ((n : Nat) : Int)), (11, .int .i64 0)] iU9 (U2 iU9)), (by kernel_rfl), rfl, (Nat.zero_le _), rfl, (Below.refl _ _)⟩
  rintro am0 aa0 wl0 K4 h4 ⟨K, U0, rfl, rfl, hk, hok, c3⟩
  refine wp_seq_k (fun K5 h5 => ?_)
  refine W.region_quiet [(0, false)] (by kernel_rfl) ?_
  by_cases q4 : (((K : Nat) : Int) : Int) < (((n : Nat) : Int) : Int)
  · refine W.q (v := .bool true) (hr := (r_lss (m := ((K : Nat) : Int)) (n := ((n : Nat) : Int)) rfl (by kernel_rfl) (by kernel_rfl) (decide_eq_true q4))) (h := ?_)
    refine W.endF 35 [(0, .slice A n c), (1, .int .i64 lo), (2, .int .i64 hi), (6, .bool false), (9, .slice A n c), (10, .int .i64 ((n : Nat) : Int)), (11, .int .i64 ((K : Nat) : Int)), (12, .bool true)] (fun U5 => ?_)
    refine h5 _ _ ?_
    refine wp_seq_k (fun K6 h6 => ?_)
    refine wp_cond_true (by kernel_rfl) ?_
    refine wp_skip ?_
    refine h6 _ _ ?_
    refine wp_seq_k (fun K7 h7 => ?_)
    refine wp_block ?_
    refine wp_seq_k (fun K8 h8 => ?_)
    refine W.region_quiet [(0, false), (1, false), (2, false), (3, false), (4, false)] (by kernel_rfl) ?_
    refine W.mv (v := .int .i64 ((K : Nat) : Int)) (h := ?_)
    obtain ⟨x6, hx7⟩ := get_of (zs := zs) (k := K) (by have := hl; omega)
    obtain ⟨b8, o9, hA10, hb11, hc12⟩ := Rd.elInt ha hx7
    refine W.q (v := .pointer (some ⟨b8, o9 + K, none⟩)) (hr := (r_idx1 (n := n) (c := c) (k := K) rfl (by kernel_rfl) hA10 (by kernel_rfl) (by kernel_rfl) (by have := hl; omega))) (h := ?_)
    refine W.ld (v := .int .i64 x6) (hc := (eqS (later c3 hc12))) (h := ?_)
    refine W.as (v := .int .i64 ((K : Nat) : Int)) (h := ?_)
    refine W.as (v := .int .i64 x6) (h := ?_)
    refine W.endF 35 [(0, .slice A n c), (1, .int .i64 lo), (2, .int .i64 hi), (6, .bool false), (7, .int .i64 ((K : Nat) : Int)), (8, .int .i64 x6), (9, .slice A n c), (10, .int .i64 ((n : Nat) : Int)), (11, .int .i64 ((K : Nat) : Int)), (12, .bool true)] (fun U13 => ?_)
    refine h8 _ _ ?_
    refine wp_seq_k (fun K9 h9 => ?_)
    refine W.region_plain (row := none) [(0, false), (1, false), (2, false), (3, true), (4, false), (5, false), (6, false), (7, false), (8, false), (9, false), (10, false), (11, false), (12, false), (13, false), (14, false), (15, false), (16, false), (17, false)] (by kernel_rfl) ?_
    have s14 := SG.self wl0 none
    refine W.mv (v := .int .i64 x6) (h := ?_)
    refine W.mv (v := .int .i64 lo) (h := ?_)
    refine W.mv (v := .int .i64 hi) (h := ?_)
    refine W.sc (vs := [.int .i64 x6, .int .i64 lo, .int .i64 hi]) rfl rfl (by kernel_rfl) (by kernel_rfl) (by kernel_rfl) rfl (inside_any x6 lo hi _) ?_
    rintro e w' ⟨rfl, rfl⟩
    refine ⟨_, rfl, s14, ?_⟩
    rcases Bool.eq_false_or_eq_true (inB x6 lo hi) with q17 | q17
    · rw [q17]
      refine W.q (v := .bool false) (hr := (r_not (b := true) rfl (by kernel_rfl) rfl)) (h := ?_)
      refine W.mv (v := .bool false) (h := ?_)
      refine W.mv (v := .int .i64 ((K : Nat) : Int)) (h := ?_)
      by_cases q18 : (((K : Nat) : Int) : Int) > (0 : Int)
      · obtain ⟨k, rfl⟩ : ∃ k, K = k + 1 := ⟨K - 1, by omega⟩
        refine W.q (v := .bool true) (hr := (r_gtr (m := (((k + 1) : Nat) : Int)) (n := 0) rfl (by kernel_rfl) (by kernel_rfl) (decide_eq_true q18))) (h := ?_)
        refine W.mv (v := .bool true) (h := ?_)
        refine W.mv (v := .slice A n c) (h := ?_)
        refine W.mv (v := .int .i64 (((k + 1) : Nat) : Int)) (h := ?_)
        refine W.q (v := .int .i64 ((k : Nat) : Int)) (hr := (r_sub (m := (((k + 1) : Nat) : Int)) (n := 1) (z := ((k : Nat) : Int)) rfl (by kernel_rfl) (by kernel_rfl) (by omega) (by omega))) (h := ?_)
        obtain ⟨x19, hx20⟩ := get_of (zs := zs) (k := k) (by have := hl; omega)
        obtain ⟨b21, o22, hA23, hb24, hc25⟩ := Rd.elInt ha hx20
        refine W.q (v := .pointer (some ⟨b21, o22 + k, none⟩)) (hr := (r_idx1 (n := n) (c := c) (k := k) rfl (by kernel_rfl) hA23 (by kernel_rfl) (by kernel_rfl) (by have := hl; omega))) (h := ?_)
        refine W.ld (v := .int .i64 x19) (hc := (sgS (later c3 hc25) (by simp))) (h := ?_)
        refine W.mv (v := .int .i64 x6) (h := ?_)
        by_cases q26 : (x19 : Int) ≥ (x6 : Int)
        · refine W.q (v := .bool true) (hr := (r_geq (m := x19) (n := x6) rfl (by kernel_rfl) (by kernel_rfl) (decide_eq_true q26))) (h := ?_)
          refine W.q (v := .bool true) (hr := (r_pick (b := true) rfl (by kernel_rfl) (by kernel_rfl))) (h := ?_)
          refine W.q (v := .bool true) (hr := (r_pick (b := false) rfl (by kernel_rfl) (by kernel_rfl))) (h := ?_)
          refine W.endF 35 [(0, .slice A n c), (1, .int .i64 lo), (2, .int .i64 hi), (6, .bool false), (7, .int .i64 (((k + 1) : Nat) : Int)), (8, .int .i64 x6), (9, .slice A n c), (10, .int .i64 ((n : Nat) : Int)), (11, .int .i64 (((k + 1) : Nat) : Int)), (12, .bool true), (33, .bool true)] (fun U27 => ?_)
          have c28 := (SG.belowR c3 s14 (fun kq e => by cases e))
          refine h9 _ _ ?_
          refine wp_cond_true (by kernel_rfl) ?_
          refine wp_seq_k (fun K10 h10 => ?_)
          refine W.region_quiet [(0, false)] (by kernel_rfl) ?_
          refine W.as (v := .bool false) (h := ?_)
          refine W.endF 35 [(0, .slice A n c), (1, .int .i64 lo), (2, .int .i64 hi), (6, .bool false), (7, .int .i64 (((k + 1) : Nat) : Int)), (8, .int .i64 x6), (9, .slice A n c), (10, .int .i64 ((n : Nat) : Int)), (11, .int .i64 (((k + 1) : Nat) : Int)), (12, .bool true), (33, .bool true)] (fun U29 => ?_)
          refine h10 _ _ ?_
          refine wp_ret ?_
          try simp only [Exit.then, Exit.inBlock]
          refine ret1 (v := .bool false) rfl (by kernel_rfl) ?_
          have e8 : okI lo hi zs (k + 1) = false := (by rw [okI_next hx7 hx20, decide_eq_false (by omega), Bool.and_false])
          exact ⟨ret_bool (riseL_bad (k := k + 1) (by omega) e8).symm, c28⟩
        · refine W.q (v := .bool false) (hr := (r_geq (m := x19) (n := x6) rfl (by kernel_rfl) (by kernel_rfl) (decide_eq_false q26))) (h := ?_)
          refine W.q (v := .bool false) (hr := (r_pick (b := true) rfl (by kernel_rfl) (by kernel_rfl))) (h := ?_)
          refine W.q (v := .bool false) (hr := (r_pick (b := false) rfl (by kernel_rfl) (by kernel_rfl))) (h := ?_)
          refine W.endF 35 [(0, .slice A n c), (1, .int .i64 lo), (2, .int .i64 hi), (6, .bool false), (7, .int .i64 (((k + 1) : Nat) : Int)), (8, .int .i64 x6), (9, .slice A n c), (10, .int .i64 ((n : Nat) : Int)), (11, .int .i64 (((k + 1) : Nat) : Int)), (12, .bool true), (33, .bool false)] (fun U30 => ?_)
          have c31 := (SG.belowR c3 s14 (fun kq e => by cases e))
          refine h9 _ _ ?_
          refine wp_cond_false (by kernel_rfl) ?_
          refine wp_skip ?_
          refine h7 _ _ ?_
          refine W.region_quiet [(0, false), (1, false)] (by kernel_rfl) ?_
          refine W.q (v := .int .i64 (((k + 1) + 1 : Nat) : Int)) (hr := (r_add (m := (((k + 1) : Nat) : Int)) (n := 1) (z := (((k + 1) + 1 : Nat) : Int)) rfl (by kernel_rfl) (by kernel_rfl) (by omega) (by omega))) (h := ?_)
          refine W.mv (v := .int .i64 (((k + 1) + 1 : Nat) : Int)) (h := ?_)
          refine W.endF 35 [(0, .slice A n c), (1, .int .i64 lo), (2, .int .i64 hi), (6, .bool false), (7, .int .i64 (((k + 1) : Nat) : Int)), (8, .int .i64 x6), (9, .slice A n c), (10, .int .i64 ((n : Nat) : Int)), (11, .int .i64 (((k + 1) + 1 : Nat) : Int)), (12, .bool true), (33, .bool false)] (fun U32 => ?_)
          exact h4 _ _ _ (by omega : (n - (k + 1 + 1)) < _) ⟨k + 1 + 1, (fun iU9 => lk [(0, .slice A n c), (1, .int .i64 lo), (2, .int .i64 hi), (6, .bool false), (7, .int .i64 (((k + 1) : Nat) : Int)), (8, .int .i64 x6), (9, .slice A n c), (10, .int .i64 ((n : Nat) : Int)), (11, .int .i64 (((k + 1) + 1 : Nat) : Int)), (12, .bool true), (33, .bool false)] iU9 (U32 iU9)), (by kernel_rfl), rfl, (by omega), (riseTo_next hok (by rw [okI_next hx7 hx20, q17, decide_eq_true (by omega)]; rfl)), c31⟩
      · refine W.q (v := .bool false) (hr := (r_gtr (m := ((K : Nat) : Int)) (n := 0) rfl (by kernel_rfl) (by kernel_rfl) (decide_eq_false q18))) (h := ?_)
        refine W.mv (v := .bool false) (h := ?_)
        refine W.sp s14 (h := ?_)
        refine W.sp s14 (h := ?_)
        refine W.sp s14 (h := ?_)
        refine W.sp s14 (h := ?_)
        refine W.sp s14 (h := ?_)
        refine W.sp s14 (h := ?_)
        refine W.sp s14 (h := ?_)
        refine W.q (v := .bool false) (hr := (r_pick (b := false) rfl (by kernel_rfl) (by kernel_rfl))) (h := ?_)
        refine W.q (v := .bool false) (hr := (r_pick (b := false) rfl (by kernel_rfl) (by kernel_rfl))) (h := ?_)
        refine W.endF 35 [(0, .slice A n c), (1, .int .i64 lo), (2, .int .i64 hi), (6, .bool false), (7, .int .i64 ((K : Nat) : Int)), (8, .int .i64 x6), (9, .slice A n c), (10, .int .i64 ((n : Nat) : Int)), (11, .int .i64 ((K : Nat) : Int)), (12, .bool true), (33, .bool false)] (fun U33 => ?_)
        have c34 := (SG.belowR c3 s14 (fun kq e => by cases e))
        refine h9 _ _ ?_
        refine wp_cond_false (by kernel_rfl) ?_
        refine wp_skip ?_
        refine h7 _ _ ?_
        refine W.region_quiet [(0, false), (1, false)] (by kernel_rfl) ?_
        refine W.q (v := .int .i64 ((K + 1 : Nat) : Int)) (hr := (r_add (m := ((K : Nat) : Int)) (n := 1) (z := ((K + 1 : Nat) : Int)) rfl (by kernel_rfl) (by kernel_rfl) (by omega) (by omega))) (h := ?_)
        refine W.mv (v := .int .i64 ((K + 1 : Nat) : Int)) (h := ?_)
        refine W.endF 35 [(0, .slice A n c), (1, .int .i64 lo), (2, .int .i64 hi), (6, .bool false), (7, .int .i64 ((K : Nat) : Int)), (8, .int .i64 x6), (9, .slice A n c), (10, .int .i64 ((n : Nat) : Int)), (11, .int .i64 ((K + 1 : Nat) : Int)), (12, .bool true), (33, .bool false)] (fun U35 => ?_)
        exact h4 _ _ _ (by omega : (n - (K + 1)) < _) ⟨K + 1, (fun iU9 => lk [(0, .slice A n c), (1, .int .i64 lo), (2, .int .i64 hi), (6, .bool false), (7, .int .i64 ((K : Nat) : Int)), (8, .int .i64 x6), (9, .slice A n c), (10, .int .i64 ((n : Nat) : Int)), (11, .int .i64 ((K + 1 : Nat) : Int)), (12, .bool true), (33, .bool false)] iU9 (U35 iU9)), (by kernel_rfl), rfl, (by omega), (riseTo_next hok (by have e0 : K = 0 := (by omega); subst e0; rw [okI_zero hx7]; exact q17)), c34⟩
    · rw [q17]
      refine W.q (v := .bool true) (hr := (r_not (b := false) rfl (by kernel_rfl) rfl)) (h := ?_)
      refine W.mv (v := .bool true) (h := ?_)
      refine W.sp s14 (h := ?_)
      refine W.sp s14 (h := ?_)
      refine W.sp s14 (h := ?_)
      refine W.sp s14 (h := ?_)
      refine W.sp s14 (h := ?_)
      refine W.sp s14 (h := ?_)
      refine W.sp s14 (h := ?_)
      refine W.sp s14 (h := ?_)
      refine W.sp s14 (h := ?_)
      refine W.sp s14 (h := ?_)
      refine W.sp s14 (h := ?_)
      refine W.q (v := .bool true) (hr := (r_pick (b := true) rfl (by kernel_rfl) (by kernel_rfl))) (h := ?_)
      refine W.endF 35 [(0, .slice A n c), (1, .int .i64 lo), (2, .int .i64 hi), (6, .bool false), (7, .int .i64 ((K : Nat) : Int)), (8, .int .i64 x6), (9, .slice A n c), (10, .int .i64 ((n : Nat) : Int)), (11, .int .i64 ((K : Nat) : Int)), (12, .bool true), (33, .bool true)] (fun U36 => ?_)
      have c37 := (SG.belowR c3 s14 (fun kq e => by cases e))
      refine h9 _ _ ?_
      refine wp_cond_true (by kernel_rfl) ?_
      refine wp_seq_k (fun K11 h11 => ?_)
      refine W.region_quiet [(0, false)] (by kernel_rfl) ?_
      refine W.as (v := .bool false) (h := ?_)
      refine W.endF 35 [(0, .slice A n c), (1, .int .i64 lo), (2, .int .i64 hi), (6, .bool false), (7, .int .i64 ((K : Nat) : Int)), (8, .int .i64 x6), (9, .slice A n c), (10, .int .i64 ((n : Nat) : Int)), (11, .int .i64 ((K : Nat) : Int)), (12, .bool true), (33, .bool true)] (fun U38 => ?_)
      refine h11 _ _ ?_
      refine wp_ret ?_
      try simp only [Exit.then, Exit.inBlock]
      refine ret1 (v := .bool false) rfl (by kernel_rfl) ?_
      have e8 : okI lo hi zs (K) = false := okI_out hx7 q17
      exact ⟨ret_bool (riseL_bad (k := K) (by omega) e8).symm, c37⟩
  · refine W.q (v := .bool false) (hr := (r_lss (m := ((K : Nat) : Int)) (n := ((n : Nat) : Int)) rfl (by kernel_rfl) (by kernel_rfl) (decide_eq_false q4))) (h := ?_)
    refine W.endF 35 [(0, .slice A n c), (1, .int .i64 lo), (2, .int .i64 hi), (6, .bool false), (9, .slice A n c), (10, .int .i64 ((n : Nat) : Int)), (11, .int .i64 ((K : Nat) : Int)), (12, .bool false)] (fun U39 => ?_)
    refine h5 _ _ ?_
    refine wp_seq_k (fun K12 h12 => ?_)
    refine wp_cond_false (by kernel_rfl) ?_
    refine wp_exit ?_
    refine h2 _ _ ?_
    refine wp_seq_k (fun K13 h13 => ?_)
    refine W.region_quiet [(0, false)] (by kernel_rfl) ?_
    refine W.as (v := .bool true) (h := ?_)
    refine W.endF 35 [(0, .slice A n c), (1, .int .i64 lo), (2, .int .i64 hi), (6, .bool true), (9, .slice A n c), (10, .int .i64 ((n : Nat) : Int)), (11, .int .i64 ((K : Nat) : Int)), (12, .bool false)] (fun U40 => ?_)
    refine h13 _ _ ?_
    refine wp_ret ?_
    try simp only [Exit.then]
    refine ret1 (v := .bool true) rfl (by kernel_rfl) ?_
    have e8 : riseL lo hi zs = true := by unfold riseL; rw [show zs.length = K by omega]; exact hok
    exact ⟨ret_bool e8.symm, c3⟩

set_option maxRecDepth 100000 in
set_option maxHeartbeats 1000000 in
theorem l1Rising_any (A : Option Addr) (n c : Nat) (zs : List Int) (lo hi : Int) (w : World) (ha : Rd w 1 A n (intsV zs)) (hn : n ≤ 1048576) :
    Calls Try.prog 94 #[.slice A n c, .int .i64 lo, .int .i64 hi] w fun e w' => e = .returned (.bool (riseL lo hi zs)) ∧ Below w.heap.size w w' := by
  have hl := rd_ints_len ha
  go_enter Try.func94, Try.ntmps94
  refine wp_seq_k (fun K1 h1 => ?_)
  refine W.region_quiet [(0, false)] (by kernel_rfl) ?_
  refine W.as (v := .bool false) (h := ?_)
  refine W.endF 38 [(0, .slice A n c), (1, .int .i64 lo), (2, .int .i64 hi), (6, .bool false)] (fun U1 => ?_)
  refine h1 _ _ ?_
  refine wp_seq_k (fun K2 h2 => ?_)
  refine wp_seq_k (fun K3 h3 => ?_)
  refine W.region_quiet [(0, false)] (by kernel_rfl) ?_
  refine W.as (v := .int .i64 0) (h := ?_)
  refine W.endF 38 [(0, .slice A n c), (1, .int .i64 lo), (2, .int .i64 hi), (6, .bool false), (7, .int .i64 0)] (fun U2 => ?_)
  refine h3 _ _ ?_
  refine wp_block ?_
  refine loopK (fun am0 aa0 wl0 => ∃ (K : Nat) (U0 : Nat → Value), aa0 = ⟨(fr U0 [(0, .slice A n c), (1, .int .i64 lo), (2, .int .i64 hi), (6, .bool false), (7, .int .i64 ((K : Nat) : Int))] 38 0).toArray, []⟩ ∧ (am0 = n - K) ∧ (K ≤ n) ∧ (riseTo lo hi zs K = true) ∧ (Below w.heap.size w wl0)) (n - 0) ?_ ?_
  · exact ⟨0, (fun iU9 => lk [(0, .slice A n c), (1, .int .i64 lo), (2, .int .i64 hi), (6, .bool false), (7, .int .i64 0)] iU9 (U2 iU9)), (by kernel_rfl), rfl, (Nat.zero_le _), rfl, (Below.refl _ _)⟩
  rintro am0 aa0 wl0 K4 h4 ⟨K, U0, rfl, rfl, hk, hok, c3⟩
  refine wp_seq_k (fun K5 h5 => ?_)
  refine wp_seq_k (fun K6 h6 => ?_)
  refine W.region_quiet [(0, false), (1, false), (2, false), (3, false)] (by kernel_rfl) ?_
  refine W.mv (v := .int .i64 ((K : Nat) : Int)) (h := ?_)
  refine W.mv (v := .slice A n c) (h := ?_)
  refine W.q (v := .int .i64 ((n : Nat) : Int)) (hr := (r_len (A := A) (n := n) (c := c) rfl (by kernel_rfl) (by kernel_rfl))) (h := ?_)
  by_cases q4 : (((K : Nat) : Int) : Int) < (((n : Nat) : Int) : Int)
  · refine W.q (v := .bool true) (hr := (r_lss (m := ((K : Nat) : Int)) (n := ((n : Nat) : Int)) rfl (by kernel_rfl) (by kernel_rfl) (decide_eq_true q4))) (h := ?_)
    refine W.endF 38 [(0, .slice A n c), (1, .int .i64 lo), (2, .int .i64 hi), (6, .bool false), (7, .int .i64 ((K : Nat) : Int)), (11, .bool true)] (fun U5 => ?_)
    refine h6 _ _ ?_
    refine wp_cond_true (by kernel_rfl) ?_
    refine wp_skip ?_
    refine h5 _ _ ?_
    refine wp_seq_k (fun K7 h7 => ?_)
    refine wp_block ?_
    refine wp_seq_k (fun K8 h8 => ?_)
    refine W.region_sch (row := none) (Sch.of [(0, false), (1, false), (2, false), (3, false), (4, false), (5, false), (6, true), (7, false), (8, false), (9, false), (10, false), (11, false), (12, false), (13, false), (14, false), (15, false), (16, false), (17, false), (18, false), (19, false), (20, false), (21, false), (22, false), (23, false)]) (by kernel_rfl) (by kernel_rfl) (fun _ d _ _ _ h => by cases d <;> exact h) (by kernel_rfl) (fun w6 e7 s8 => ?_)
    refine W.mv (v := .slice A n c) (h := ?_)
    refine W.mv (v := .int .i64 ((K : Nat) : Int)) (h := ?_)
    obtain ⟨x9, hx10⟩ := get_of (zs := zs) (k := K) (by have := hl; omega)
    obtain ⟨b11, o12, hA13, hb14, hc15⟩ := Rd.elInt ha hx10
    refine W.q (v := .pointer (some ⟨b11, o12 + K, none⟩)) (hr := (r_idx1 (n := n) (c := c) (k := K) rfl (by kernel_rfl) hA13 (by kernel_rfl) (by kernel_rfl) (by have := hl; omega))) (h := ?_)
    refine W.ld (v := .int .i64 x9) (hc := (sgS (later c3 hc15) (by simp))) (h := ?_)
    refine W.mv (v := .int .i64 lo) (h := ?_)
    refine W.mv (v := .int .i64 hi) (h := ?_)
    refine W.sc (vs := [.int .i64 x9, .int .i64 lo, .int .i64 hi]) rfl rfl (by kernel_rfl) (by kernel_rfl) (by kernel_rfl) rfl (l1In_any x9 lo hi _) ?_
    rintro e w' ⟨rfl, rfl⟩
    refine ⟨_, rfl, s8, ?_⟩
    rcases Bool.eq_false_or_eq_true (inB x9 lo hi) with q18 | q18
    · rw [q18]
      refine W.q (v := .bool false) (hr := (r_not (b := true) rfl (by kernel_rfl) rfl)) (h := ?_)
      refine W.mv (v := .bool false) (h := ?_)
      refine W.mv (v := .int .i64 ((K : Nat) : Int)) (h := ?_)
      by_cases q19 : (((K : Nat) : Int) : Int) > (0 : Int)
      · obtain ⟨k, rfl⟩ : ∃ k, K = k + 1 := ⟨K - 1, by omega⟩
        refine W.q (v := .bool true) (hr := (r_gtr (m := (((k + 1) : Nat) : Int)) (n := 0) rfl (by kernel_rfl) (by kernel_rfl) (decide_eq_true q19))) (h := ?_)
        refine W.mv (v := .bool true) (h := ?_)
        refine W.mv (v := .slice A n c) (h := ?_)
        refine W.mv (v := .int .i64 (((k + 1) : Nat) : Int)) (h := ?_)
        refine W.q (v := .int .i64 ((k : Nat) : Int)) (hr := (r_sub (m := (((k + 1) : Nat) : Int)) (n := 1) (z := ((k : Nat) : Int)) rfl (by kernel_rfl) (by kernel_rfl) (by omega) (by omega))) (h := ?_)
        obtain ⟨x20, hx21⟩ := get_of (zs := zs) (k := k) (by have := hl; omega)
        obtain ⟨b22, o23, hA24, hb25, hc26⟩ := Rd.elInt ha hx21
        refine W.q (v := .pointer (some ⟨b22, o23 + k, none⟩)) (hr := (r_idx1 (n := n) (c := c) (k := k) rfl (by kernel_rfl) hA24 (by kernel_rfl) (by kernel_rfl) (by have := hl; omega))) (h := ?_)
        refine W.ld (v := .int .i64 x20) (hc := (sgS (later c3 hc26) (by simp))) (h := ?_)
        refine W.mv (v := .slice A n c) (h := ?_)
        refine W.mv (v := .int .i64 (((k + 1) : Nat) : Int)) (h := ?_)
        refine W.q (v := .pointer (some ⟨b11, o12 + (k + 1), none⟩)) (hr := (r_idx1 (n := n) (c := c) (k := (k + 1)) rfl (by kernel_rfl) hA13 (by kernel_rfl) (by kernel_rfl) (by have := hl; omega))) (h := ?_)
        refine W.ld (v := .int .i64 x9) (hc := (sgS (later c3 hc15) (by simp))) (h := ?_)
        by_cases q27 : (x20 : Int) ≥ (x9 : Int)
        · refine W.q (v := .bool true) (hr := (r_geq (m := x20) (n := x9) rfl (by kernel_rfl) (by kernel_rfl) (decide_eq_true q27))) (h := ?_)
          refine W.q (v := .bool true) (hr := (r_pick (b := true) rfl (by kernel_rfl) (by kernel_rfl))) (h := ?_)
          refine W.q (v := .bool true) (hr := (r_pick (b := false) rfl (by kernel_rfl) (by kernel_rfl))) (h := ?_)
          refine W.endF 38 [(0, .slice A n c), (1, .int .i64 lo), (2, .int .i64 hi), (6, .bool false), (7, .int .i64 (((k + 1) : Nat) : Int)), (11, .bool true), (37, .bool true)] (fun U28 => ?_)
          have c29 := (SG.belowR c3 s8 (fun kq e => by cases e))
          refine h8 _ _ ?_
          refine wp_cond_true (by kernel_rfl) ?_
          refine wp_seq_k (fun K9 h9 => ?_)
          refine W.region_quiet [(0, false)] (by kernel_rfl) ?_
          refine W.as (v := .bool false) (h := ?_)
          refine W.endF 38 [(0, .slice A n c), (1, .int .i64 lo), (2, .int .i64 hi), (6, .bool false), (7, .int .i64 (((k + 1) : Nat) : Int)), (11, .bool true), (37, .bool true)] (fun U30 => ?_)
          refine h9 _ _ ?_
          refine wp_ret ?_
          try simp only [Exit.then, Exit.inBlock]
          refine ret1 (v := .bool false) rfl (by kernel_rfl) ?_
          have e8 : okI lo hi zs (k + 1) = false := (by rw [okI_next hx10 hx21, decide_eq_false (by omega), Bool.and_false])
          exact ⟨ret_bool (riseL_bad (k := k + 1) (by omega) e8).symm, c29⟩
        · refine W.q (v := .bool false) (hr := (r_geq (m := x20) (n := x9) rfl (by kernel_rfl) (by kernel_rfl) (decide_eq_false q27))) (h := ?_)
          refine W.q (v := .bool false) (hr := (r_pick (b := true) rfl (by kernel_rfl) (by kernel_rfl))) (h := ?_)
          refine W.q (v := .bool false) (hr := (r_pick (b := false) rfl (by kernel_rfl) (by kernel_rfl))) (h := ?_)
          refine W.endF 38 [(0, .slice A n c), (1, .int .i64 lo), (2, .int .i64 hi), (6, .bool false), (7, .int .i64 (((k + 1) : Nat) : Int)), (11, .bool true), (37, .bool false)] (fun U31 => ?_)
          have c32 := (SG.belowR c3 s8 (fun kq e => by cases e))
          refine h8 _ _ ?_
          refine wp_cond_false (by kernel_rfl) ?_
          refine wp_skip ?_
          refine h7 _ _ ?_
          refine W.region_quiet [(0, false), (1, false), (2, false)] (by kernel_rfl) ?_
          refine W.mv (v := .int .i64 (((k + 1) : Nat) : Int)) (h := ?_)
          refine W.q (v := .int .i64 (((k + 1) + 1 : Nat) : Int)) (hr := (r_add (m := (((k + 1) : Nat) : Int)) (n := 1) (z := (((k + 1) + 1 : Nat) : Int)) rfl (by kernel_rfl) (by kernel_rfl) (by omega) (by omega))) (h := ?_)
          refine W.as (v := .int .i64 (((k + 1) + 1 : Nat) : Int)) (h := ?_)
          refine W.endF 38 [(0, .slice A n c), (1, .int .i64 lo), (2, .int .i64 hi), (6, .bool false), (7, .int .i64 (((k + 1) + 1 : Nat) : Int)), (11, .bool true), (37, .bool false)] (fun U33 => ?_)
          exact h4 _ _ _ (by omega : (n - (k + 1 + 1)) < _) ⟨k + 1 + 1, (fun iU9 => lk [(0, .slice A n c), (1, .int .i64 lo), (2, .int .i64 hi), (6, .bool false), (7, .int .i64 (((k + 1) + 1 : Nat) : Int)), (11, .bool true), (37, .bool false)] iU9 (U33 iU9)), (by kernel_rfl), rfl, (by omega), (riseTo_next hok (by rw [okI_next hx10 hx21, q18, decide_eq_true (by omega)]; rfl)), c32⟩
      · refine W.q (v := .bool false) (hr := (r_gtr (m := ((K : Nat) : Int)) (n := 0) rfl (by kernel_rfl) (by kernel_rfl) (decide_eq_false q19))) (h := ?_)
        refine W.mv (v := .bool false) (h := ?_)
        refine W.sp s8 (h := ?_)
        refine W.sp s8 (h := ?_)
        refine W.sp s8 (h := ?_)
        refine W.sp s8 (h := ?_)
        refine W.sp s8 (h := ?_)
        refine W.sp s8 (h := ?_)
        refine W.sp s8 (h := ?_)
        refine W.sp s8 (h := ?_)
        refine W.sp s8 (h := ?_)
        refine W.sp s8 (h := ?_)
        refine W.q (v := .bool false) (hr := (r_pick (b := false) rfl (by kernel_rfl) (by kernel_rfl))) (h := ?_)
        refine W.q (v := .bool false) (hr := (r_pick (b := false) rfl (by kernel_rfl) (by kernel_rfl))) (h := ?_)
        refine W.endF 38 [(0, .slice A n c), (1, .int .i64 lo), (2, .int .i64 hi), (6, .bool false), (7, .int .i64 ((K : Nat) : Int)), (11, .bool true), (37, .bool false)] (fun U34 => ?_)
        have c35 := (SG.belowR c3 s8 (fun kq e => by cases e))
        refine h8 _ _ ?_
        refine wp_cond_false (by kernel_rfl) ?_
        refine wp_skip ?_
        refine h7 _ _ ?_
        refine W.region_quiet [(0, false), (1, false), (2, false)] (by kernel_rfl) ?_
        refine W.mv (v := .int .i64 ((K : Nat) : Int)) (h := ?_)
        refine W.q (v := .int .i64 ((K + 1 : Nat) : Int)) (hr := (r_add (m := ((K : Nat) : Int)) (n := 1) (z := ((K + 1 : Nat) : Int)) rfl (by kernel_rfl) (by kernel_rfl) (by omega) (by omega))) (h := ?_)
        refine W.as (v := .int .i64 ((K + 1 : Nat) : Int)) (h := ?_)
        refine W.endF 38 [(0, .slice A n c), (1, .int .i64 lo), (2, .int .i64 hi), (6, .bool false), (7, .int .i64 ((K + 1 : Nat) : Int)), (11, .bool true), (37, .bool false)] (fun U36 => ?_)
        exact h4 _ _ _ (by omega : (n - (K + 1)) < _) ⟨K + 1, (fun iU9 => lk [(0, .slice A n c), (1, .int .i64 lo), (2, .int .i64 hi), (6, .bool false), (7, .int .i64 ((K + 1 : Nat) : Int)), (11, .bool true), (37, .bool false)] iU9 (U36 iU9)), (by kernel_rfl), rfl, (by omega), (riseTo_next hok (by have e0 : K = 0 := (by omega); subst e0; rw [okI_zero hx10]; exact q18)), c35⟩
    · rw [q18]
      refine W.q (v := .bool true) (hr := (r_not (b := false) rfl (by kernel_rfl) rfl)) (h := ?_)
      refine W.mv (v := .bool true) (h := ?_)
      refine W.sp s8 (h := ?_)
      refine W.sp s8 (h := ?_)
      refine W.sp s8 (h := ?_)
      refine W.sp s8 (h := ?_)
      refine W.sp s8 (h := ?_)
      refine W.sp s8 (h := ?_)
      refine W.sp s8 (h := ?_)
      refine W.sp s8 (h := ?_)
      refine W.sp s8 (h := ?_)
      refine W.sp s8 (h := ?_)
      refine W.sp s8 (h := ?_)
      refine W.sp s8 (h := ?_)
      refine W.sp s8 (h := ?_)
      refine W.sp s8 (h := ?_)
      refine W.q (v := .bool true) (hr := (r_pick (b := true) rfl (by kernel_rfl) (by kernel_rfl))) (h := ?_)
      refine W.endF 38 [(0, .slice A n c), (1, .int .i64 lo), (2, .int .i64 hi), (6, .bool false), (7, .int .i64 ((K : Nat) : Int)), (11, .bool true), (37, .bool true)] (fun U37 => ?_)
      have c38 := (SG.belowR c3 s8 (fun kq e => by cases e))
      refine h8 _ _ ?_
      refine wp_cond_true (by kernel_rfl) ?_
      refine wp_seq_k (fun K10 h10 => ?_)
      refine W.region_quiet [(0, false)] (by kernel_rfl) ?_
      refine W.as (v := .bool false) (h := ?_)
      refine W.endF 38 [(0, .slice A n c), (1, .int .i64 lo), (2, .int .i64 hi), (6, .bool false), (7, .int .i64 ((K : Nat) : Int)), (11, .bool true), (37, .bool true)] (fun U39 => ?_)
      refine h10 _ _ ?_
      refine wp_ret ?_
      try simp only [Exit.then, Exit.inBlock]
      refine ret1 (v := .bool false) rfl (by kernel_rfl) ?_
      have e8 : okI lo hi zs (K) = false := okI_out hx10 q18
      exact ⟨ret_bool (riseL_bad (k := K) (by omega) e8).symm, c38⟩
  · refine W.q (v := .bool false) (hr := (r_lss (m := ((K : Nat) : Int)) (n := ((n : Nat) : Int)) rfl (by kernel_rfl) (by kernel_rfl) (decide_eq_false q4))) (h := ?_)
    refine W.endF 38 [(0, .slice A n c), (1, .int .i64 lo), (2, .int .i64 hi), (6, .bool false), (7, .int .i64 ((K : Nat) : Int)), (11, .bool false)] (fun U40 => ?_)
    refine h6 _ _ ?_
    refine wp_cond_false (by kernel_rfl) ?_
    refine wp_exit ?_
    refine h2 _ _ ?_
    refine wp_seq_k (fun K11 h11 => ?_)
    refine W.region_quiet [(0, false)] (by kernel_rfl) ?_
    refine W.as (v := .bool true) (h := ?_)
    refine W.endF 38 [(0, .slice A n c), (1, .int .i64 lo), (2, .int .i64 hi), (6, .bool true), (7, .int .i64 ((K : Nat) : Int)), (11, .bool false)] (fun U41 => ?_)
    refine h11 _ _ ?_
    refine wp_ret ?_
    try simp only [Exit.then]
    refine ret1 (v := .bool true) rfl (by kernel_rfl) ?_
    have e8 : riseL lo hi zs = true := by unfold riseL; rw [show zs.length = K by omega]; exact hok
    exact ⟨ret_bool e8.symm, c3⟩

end Go.Proofs.Ytnfmdkbelbppdaa
