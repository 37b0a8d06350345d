/- What the texts behind it build on; conditions: none. -/
import Derived.Test.YtdbgfejeleafgaaPh6
namespace Go.Proofs.Ytdbgfejeleafgaa
open Go.RowKit
set_option linter.unusedVariables false
set_option linter.unusedSimpArgs false
def idxI (q : Int → Bool) : List Int → Int
  | [] => -1
  | p :: ps => if q p = true then 0 else if idxI q ps < 0 then -1 else idxI q ps + 1
theorem idxI_at {q : Int → Bool} : ∀ {ps : List Int} {k : Nat} {x : Int}, (∀ j z, j < k → ps[j]? = some z → q z = false) → ps[k]? = some x → q x = true → idxI q ps = (k : Int)
  | [], k, x, _, hx, _ => by simp at hx
  | p :: ps, 0, x, _, hx, e => by simp at hx; subst hx; unfold idxI; rw [if_pos e]; rfl
  | p :: ps, k + 1, x, h, hx, e => by
    have h0 := h 0 p (by omega) rfl
    have ih := idxI_at (q := q) (ps := ps) (k := k) (fun j z hj hz => h (j + 1) z (by omega) (by simpa using hz)) (by simpa using hx) e
    unfold idxI; rw [if_neg (by rw [h0]; simp), ih, if_neg (by omega)]; omega
theorem idxI_none {q : Int → Bool} : ∀ {ps : List Int}, (∀ (j : Nat) z, j < ps.length → ps[j]? = some z → q z = false) → idxI q ps = -1
  | [], _ => rfl
  | p :: ps, h => by
    have h0 := h 0 p (by simp) rfl
    have ih := idxI_none (q := q) (ps := ps) (fun j z hj hz => h (j + 1) z (by simp; omega) (by simpa using hz))
    unfold idxI; rw [if_neg (by rw [h0]; simp), ih]; rfl
theorem idxI_pos (q : Int → Bool) (ps : List Int) : decide (0 ≤ idxI q ps) = ps.any q := by
  induction ps with
  | nil => rfl
  | cons p ps ih =>
    unfold idxI
    by_cases hp : q p = true
    · rw [if_pos hp]; simp [hp]
    · rw [if_neg hp]
      have hp' : q p = false := by simpa using hp
      rw [List.any_cons, hp', Bool.false_or, ← ih]
      by_cases h : idxI q ps < 0
      · rw [if_pos h]; exact decide_eq_decide.2 (by omega)
      · rw [if_neg h]; exact decide_eq_decide.2 (by omega)
theorem idxI_has (x : Int) (ps : List Int) : decide (0 ≤ idxI (fun z => decide (x = z)) ps) = ps.contains x := by
  rw [idxI_pos, Bool.eq_iff_iff, List.any_eq_true, List.contains_iff_mem]
  constructor
  · rintro ⟨z, hz, h⟩; simp at h; subst h; exact hz
  · intro h; exact ⟨x, h, by simp⟩
def cmpI (a b : Int) : Int := if a < b then -1 else if b < a then 1 else 0
theorem cmpL_take : ∀ {us ws : List Int} {k : Nat}, (∀ (j : Nat) x y, j < k → us[j]? = some x → ws[j]? = some y → x = y) → k ≤ us.length → k ≤ ws.length → cmpL us ws = cmpL (us.drop k) (ws.drop k)
  | us, ws, 0, _, _, _ => by simp
  | [], ws, k + 1, _, h, _ => by simp at h
  | a :: us, [], k + 1, _, _, h => by simp at h
  | a :: us, b :: ws, k + 1, h, h1, h2 => by
    have e : a = b := h 0 a b (by omega) rfl rfl
    have ih := cmpL_take (us := us) (ws := ws) (k := k) (fun j x y hj hx hy => h (j + 1) x y (by omega) (by simpa using hx) (by simpa using hy)) (by simpa using h1) (by simpa using h2)
    subst e
    rw [cmpL, if_neg (by omega), if_neg (by omega), ih]; rfl
theorem cmpL_ne {us ws : List Int} {k : Nat} {x y : Int} (h : ∀ (j : Nat) x y, j < k → us[j]? = some x → ws[j]? = some y → x = y) (hx : us[k]? = some x) (hy : ws[k]? = some y) (hne : cmpI x y ≠ 0) : cmpL us ws = cmpI x y := by
  have h1 := (List.getElem?_eq_some_iff.1 hx)
  have h2 := (List.getElem?_eq_some_iff.1 hy)
  obtain ⟨h1, e1⟩ := h1
  obtain ⟨h2, e2⟩ := h2
  rw [cmpL_take h (by omega) (by omega), List.drop_eq_getElem_cons h1, List.drop_eq_getElem_cons h2, e1, e2, cmpL]
  unfold cmpI at hne ⊢
  by_cases q1 : x < y
  · rw [if_pos q1, if_pos q1]
  · rw [if_neg q1, if_neg q1]
    by_cases q2 : y < x
    · rw [if_pos q2, if_pos q2]
    · rw [if_neg q1, if_neg q2] at hne; exact absurd rfl hne
theorem cmpI_zero {x y : Int} (h : cmpI x y = 0) : x = y := by
  unfold cmpI at h; split at h
  · omega
  · split at h <;> omega
theorem upto2 {us ws : List Int} {k : Nat} {x y : Int} (h : ∀ (j : Nat) x y, j < k → us[j]? = some x → ws[j]? = some y → x = y) (hx : us[k]? = some x) (hy : ws[k]? = some y) (e : cmpI x y = 0) : ∀ (j : Nat) x y, j < k + 1 → us[j]? = some x → ws[j]? = some y → x = y := fun j a b hj ha hb => by
  by_cases e1 : j = k
  · subst e1; rw [hx] at ha; rw [hy] at hb; cases ha; cases hb; exact cmpI_zero e
  · exact h j a b (by omega) ha hb
theorem cmpL_end {us ws : List Int} {k : Nat} (h : ∀ (j : Nat) x y, j < k → us[j]? = some x → ws[j]? = some y → x = y) (h1 : k ≤ us.length) (h2 : k ≤ ws.length) (he : us.length ≤ k ∨ ws.length ≤ k) :
    cmpL us ws = if us.length < ws.length then -1 else if ws.length < us.length then 1 else 0 := by
  rw [cmpL_take h h1 h2]
  by_cases q1 : us.length ≤ k
  · rw [List.drop_eq_nil_of_le q1]
    by_cases q2 : ws.length ≤ k
    · rw [List.drop_eq_nil_of_le q2, if_neg (by omega), if_neg (by omega)]; rfl
    · rw [if_pos (by omega), List.drop_eq_getElem_cons (by omega : k < ws.length)]; rfl
  · rw [if_neg (by omega), if_pos (by omega), List.drop_eq_getElem_cons (by omega : k < us.length), List.drop_eq_nil_of_le (by omega : ws.length ≤ k)]; rfl
def okI (lo hi : Int) (zs : List Int) : Nat → Bool
  | 0 => match zs[0]? with | some z => inB z lo hi | none => true
  | k + 1 => match zs[k + 1]?, zs[k]? with | some z, some y => inB z lo hi && decide (y < z) | _, _ => true
def riseTo (lo hi : Int) (zs : List Int) : Nat → Bool
  | 0 => true
  | k + 1 => riseTo lo hi zs k && okI lo hi zs k
def riseL (lo hi : Int) (zs : List Int) : Bool := riseTo lo hi zs zs.length
theorem riseTo_bad {lo hi : Int} {zs : List Int} {k : Nat} (h : okI lo hi zs k = false) : ∀ n, k < n → riseTo lo hi zs n = false
  | 0, hk => absurd hk (by omega)
  | n + 1, hk => by
    by_cases e : k = n
    · subst e; unfold riseTo; rw [h]; simp
    · unfold riseTo; rw [riseTo_bad h n (by omega)]; rfl
theorem riseL_bad {lo hi : Int} {zs : List Int} {k : Nat} (hk : k < zs.length) (h : okI lo hi zs k = false) : riseL lo hi zs = false := riseTo_bad h _ hk
theorem riseTo_next {lo hi : Int} {zs : List Int} {k : Nat} (h : riseTo lo hi zs k = true) (h' : okI lo hi zs k = true) : riseTo lo hi zs (k + 1) = true := by unfold riseTo; rw [h, h']; rfl
theorem okI_zero {lo hi : Int} {zs : List Int} {z : Int} (h : zs[0]? = some z) : okI lo hi zs 0 = inB z lo hi := by unfold okI; rw [h]
theorem okI_next {lo hi : Int} {zs : List Int} {k : Nat} {z y : Int} (h : zs[k + 1]? = some z) (h' : zs[k]? = some y) : okI lo hi zs (k + 1) = (inB z lo hi && decide (y < z)) := by simp [okI, h, h']
theorem okI_out {lo hi : Int} {zs : List Int} {k : Nat} {z : Int} (h : zs[k]? = some z) (hz : inB z lo hi = false) : okI lo hi zs k = false := by
  rcases k with _ | k
  · rw [okI_zero h, hz]
  · have hk : k + 1 < zs.length := (List.getElem?_eq_some_iff.1 h).1
    have hy : zs[k]? = some zs[k] := List.getElem?_eq_getElem (by omega)
    rw [okI_next h hy, hz]; rfl
set_option maxRecDepth 100000 in
set_option maxHeartbeats 8000000 in
theorem slIndex_any (A : Option Addr) (n c : Nat) (zs : List Int) (x : Int) (w : World) (ha : Rd w 1 A n (intsV zs)) (hn : n ≤ 1048576) :
    Calls Try.prog 158 #[.slice A n c, .int .i64 x] w fun e w' => e = .returned (.int .i64 (idxI (fun z => decide (x = z)) zs)) ∧ Below w.heap.size w w' := by
 have hl := rd_ints_len ha
 go_enter Try.func158, Try.ntmps158
 refine F.begin 19 [(0, .slice A n c), (1, .int .i64 x)] (fun U0 => ?_)
 refine wk fun K1 h1 => ?_
 refine Rq 1 ?_
 refine Fa (.int .i64 0) ?_
 apply F.es
 apply h1
 refine wk fun K2 h2 => ?_
 refine wk fun K3 h3 => ?_
 refine Rq 3 ?_
 refine Fv (.slice A n c) ?_
 refine Fq (.int .i64 (n : Int)) (r_len (A := A) (n := n) (c := c) rfl ek kk) ?_
 refine Fv (.int .i64 0) ?_
 apply F.es
 apply h3
 refine wp_block ?_
 refine loopK (fun am0 aa0 wl0 => ∃ (k : Nat) , Kn aa0 [(0, .slice A n c), (1, .int .i64 x), (4, .int .i64 0), (7, .int .i64 (n : Int)), (8, .int .i64 (k : Int))] 19 ∧ (am0 = n - k) ∧ (k ≤ n) ∧ (∀ j z, j < k → zs[j]? = some z → (fun z => decide (x = z)) z = false) ∧ (Below w.heap.size w wl0)) (n - 0) ?_ ?_
 ·exact ⟨0, Kn.of, rfl, (Nat.zero_le _), (fun j z hj => absurd hj (by omega)), (Below.refl _ _)⟩
 rintro am0 aa0 wl0 K4 h4 ⟨k, ⟨U0, rfl⟩, rfl, hk, hno, c1⟩
 refine wk fun K5 h5 => ?_
 refine Rq 1 ?_
 by_cases q2 : ((k : Int) : Int) < ((n : Int) : Int)
 ·refine Fq (.bool true) (r_lss (m := (k : Int)) (n := (n : Int)) rfl ek ek (dt q2)) ?_
  apply F.es
  apply h5
  refine wk fun K6 h6 => ?_
  refine wp_cond_true ek ?_
  apply wp_skip
  apply h6
  refine wk fun K7 h7 => ?_
  refine wp_block ?_
  refine wk fun K8 h8 => ?_
  refine Rq 2 ?_
  refine Fv (.int .i64 (k : Int)) ?_
  refine Fa (.int .i64 (k : Int)) ?_
  apply F.es
  apply h8
  refine wk fun K9 h9 => ?_
  refine Rq 6 ?_
  refine Fv (.int .i64 x) ?_
  refine Fv (.slice A n c) ?_
  refine Fv (.int .i64 (k : Int)) ?_
  obtain ⟨x3, hx4⟩ := get_of (zs := zs) (k := k) (by have := hl; omega)
  obtain ⟨b5, o6, hA7, hb8, hc9⟩ := Rd.elInt ha hx4
  refine Fq (.pointer (some ⟨b5, o6 + k, none⟩)) (r_idx1 (n := n) (c := c) (k := k) rfl ek hA7 kk kk (by have := hl; omega)) ?_
  refine Fl (.int .i64 x3) (eqS (later c1 hc9)) ?_
  by_cases q10 : (x : Int) = (x3 : Int)
  ·refine Fq (.bool true) (r_eql (m := x) (n := x3) rfl ek ek (dt q10)) ?_
   apply F.es
   apply h9
   refine wp_cond_true ek ?_
   refine wk fun K10 h10 => ?_
   refine Rq 2 ?_
   refine Fv (.int .i64 (k : Int)) ?_
   refine Fa (.int .i64 (k : Int)) ?_
   apply F.es
   apply h10
   refine wp_ret ?_
   try simp only [Exit.then, Exit.inBlock]
   refine ret1 (v := .int .i64 (k : Int)) rfl kk ?_
   exact ⟨by rw [idxI_at (q := (fun z => decide (x = z))) hno hx4 (dt (by omega))], c1⟩
  refine Fq (.bool false) (r_eql (m := x) (n := x3) rfl ek ek (df q10)) ?_
  apply F.es
  apply h9
  refine wp_cond_false ek ?_
  apply wp_skip
  apply h7
  refine Rq 2 ?_
  refine Fq (.int .i64 ((k + 1 : Nat) : Int)) (r_add (m := (k : Int)) (n := 1) (z := ((k + 1 : Nat) : Int)) rfl ek ek (by omega) (by omega)) ?_
  refine Fv (.int .i64 ((k + 1 : Nat) : Int)) ?_
  apply F.es
  exact h4 _ _ _ (by omega : (n - (k + 1)) < _) ⟨k + 1, Kn.of, rfl, (by omega), (upto_succ (Q := fun z => (fun z => decide (x = z)) z = false) hno hx4 (df (by omega))), c1⟩
 refine Fq (.bool false) (r_lss (m := (k : Int)) (n := (n : Int)) rfl ek ek (df q2)) ?_
 apply F.es
 apply h5
 refine wk fun K11 h11 => ?_
 refine wp_cond_false ek ?_
 refine wp_exit ?_
 apply h2
 refine wk fun K12 h12 => ?_
 refine Rq 1 ?_
 refine Fa (.int .i64 (-1)) ?_
 apply F.es
 apply h12
 refine wp_ret ?_
 try simp only [Exit.then]
 refine ret1 (v := .int .i64 (-1)) rfl kk ?_
 exact ⟨by rw [idxI_none (q := (fun z => decide (x = z))) (fun j z hj => hno j z (by omega))], c1⟩
set_option maxRecDepth 100000 in
set_option maxHeartbeats 8000000 in
theorem slContains_any (A : Option Addr) (n c : Nat) (zs : List Int) (x : Int) (w : World) (ha : Rd w 1 A n (intsV zs)) (hn : n ≤ 1048576) :
    Calls Try.prog 155 #[.slice A n c, .int .i64 x] w fun e w' => e = .returned (.bool (zs.contains x)) ∧ Below w.heap.size w w' := by
 have hl := rd_ints_len ha
 go_enter Try.func155, Try.ntmps155
 refine F.begin 9 [(0, .slice A n c), (1, .int .i64 x)] (fun U0 => ?_)
 refine wk fun K1 h1 => ?_
 refine Rq 1 ?_
 refine Fa (.bool false) ?_
 apply F.es
 apply h1
 refine wk fun K2 h2 => ?_
 refine W.region_plain (row := none) [(0, false), (1, false), (2, true), (3, false), (4, false)] kk ?_
 have s1 := SG.self w none
 refine Fv (.slice A n c) ?_
 refine Fv (.int .i64 x) ?_
 refine Fc [.slice A n c, .int .i64 x] (slIndex_any A n c zs x _ (Rk ha (Sb (Below.refl _ _) s1 nkk)) (by omega)) ?_
 rintro e w3 ⟨rfl, b2⟩
 have s4 := SG.of_below s1 b2
 refine ⟨_, rfl, s4, ?_⟩
 apply F.nx
 by_cases q5 : (idxI (fun z => decide (x = z)) zs : Int) ≥ (0 : Int)
 ·refine Fq (.bool true) (r_geq (m := idxI (fun z => decide (x = z)) zs) (n := 0) rfl ek ek (dt q5)) ?_
  refine Fa (.bool true) ?_
  apply F.es
  have c6 := (Sb (Below.refl _ _) s4 nkk)
  apply h2
  refine wp_ret ?_
  try simp only [Exit.then]
  refine ret1 (v := .bool true) rfl kk ?_
  exact ⟨by rw [← idxI_has, decide_eq_true q5], c6⟩
 refine Fq (.bool false) (r_geq (m := idxI (fun z => decide (x = z)) zs) (n := 0) rfl ek ek (df q5)) ?_
 refine Fa (.bool false) ?_
 apply F.es
 have c7 := (Sb (Below.refl _ _) s4 nkk)
 apply h2
 refine wp_ret ?_
 try simp only [Exit.then]
 refine ret1 (v := .bool false) rfl kk ?_
 exact ⟨by rw [← idxI_has, decide_eq_false q5], c7⟩
set_option maxRecDepth 100000 in
set_option maxHeartbeats 8000000 in
theorem isNaN_any (a : Int) (w : World) :
    Calls Try.prog 157 #[.int .i64 a] w fun e w' => e = .returned (.bool false) ∧ w = w' := by
 go_enter Try.func157, Try.ntmps157
 refine F.begin 6 [(0, .int .i64 a)] (fun U0 => ?_)
 refine wk fun K1 h1 => ?_
 refine Rq 1 ?_
 refine Fa (.bool false) ?_
 apply F.es
 apply h1
 refine wk fun K2 h2 => ?_
 refine Rq 4 ?_
 refine Fv (.int .i64 a) ?_
 refine Fv (.int .i64 a) ?_
 refine Fq (.bool false) (r_neq (m := a) (n := a) rfl ek ek (df (fun h => h rfl))) ?_
 refine Fa (.bool false) ?_
 apply F.es
 apply h2
 refine wp_ret ?_
 try simp only [Exit.then]
 refine ret1 (v := .bool false) rfl kk ?_
 exact ⟨rfl, rfl⟩
set_option maxRecDepth 100000 in
set_option maxHeartbeats 8000000 in
theorem cmpI_any (a b : Int) (w : World) :
    Calls Try.prog 154 #[.int .i64 a, .int .i64 b] w fun e w' => e = .returned (.int .i64 (cmpI a b)) ∧ Below w.heap.size w w' := by
 go_enter Try.func154, Try.ntmps154
 refine F.begin 20 [(0, .int .i64 a), (1, .int .i64 b)] (fun U0 => ?_)
 refine wk fun K1 h1 => ?_
 refine Rq 1 ?_
 refine Fa (.int .i64 0) ?_
 apply F.es
 apply h1
 refine wk fun K2 h2 => ?_
 refine W.region_plain (row := none) [(0, false), (1, true), (2, false)] kk ?_
 have s1 := SG.self w none
 refine Fv (.int .i64 a) ?_
 refine Fc [.int .i64 a] (isNaN_any a _) ?_
 rintro e w' ⟨rfl, rfl⟩
 refine ⟨_, rfl, s1, ?_⟩
 apply F.nx
 refine Fa (.bool false) ?_
 apply F.es
 have c4 := (Sb (Below.refl _ _) s1 nkk)
 apply h2
 refine wk fun K3 h3 => ?_
 refine W.region_plain (row := none) [(0, false), (1, true), (2, false)] kk ?_
 have s5 := SG.self w none
 refine Fv (.int .i64 b) ?_
 refine Fc [.int .i64 b] (isNaN_any b _) ?_
 rintro e w' ⟨rfl, rfl⟩
 refine ⟨_, rfl, s5, ?_⟩
 apply F.nx
 refine Fa (.bool false) ?_
 apply F.es
 have c8 := (Sb c4 s5 nkk)
 apply h3
 refine wk fun K4 h4 => ?_
 refine wk fun K5 h5 => ?_
 refine Rq 1 ?_
 refine Fv (.bool false) ?_
 apply F.es
 apply h5
 refine wp_cond_false ek ?_
 apply wp_skip
 apply h4
 refine wk fun K6 h6 => ?_
 refine wk fun K7 h7 => ?_
 refine Rq 1 ?_
 refine Fv (.bool false) ?_
 apply F.es
 apply h7
 refine wp_cond_false ek ?_
 apply wp_skip
 apply h6
 refine wk fun K8 h8 => ?_
 refine wk fun K9 h9 => ?_
 refine Rq 3 ?_
 refine Fv (.int .i64 a) ?_
 refine Fv (.int .i64 b) ?_
 by_cases q9 : (a : Int) < (b : Int)
 ·refine Fq (.bool true) (r_lss (m := a) (n := b) rfl ek ek (dt q9)) ?_
  apply F.es
  apply h9
  refine wp_cond_true ek ?_
  refine wk fun K10 h10 => ?_
  refine Rq 1 ?_
  refine Fa (.int .i64 (-1)) ?_
  apply F.es
  apply h10
  refine wp_ret ?_
  try simp only [Exit.then]
  refine ret1 (v := .int .i64 (-1)) rfl kk ?_
  exact ⟨by unfold cmpI; rw [if_pos (by omega)], c8⟩
 refine Fq (.bool false) (r_lss (m := a) (n := b) rfl ek ek (df q9)) ?_
 apply F.es
 apply h9
 refine wp_cond_false ek ?_
 apply wp_skip
 apply h8
 refine wk fun K11 h11 => ?_
 refine wk fun K12 h12 => ?_
 refine Rq 3 ?_
 refine Fv (.int .i64 a) ?_
 refine Fv (.int .i64 b) ?_
 by_cases q10 : (a : Int) > (b : Int)
 ·refine Fq (.bool true) (r_gtr (m := a) (n := b) rfl ek ek (dt q10)) ?_
  apply F.es
  apply h12
  refine wp_cond_true ek ?_
  refine wk fun K13 h13 => ?_
  refine Rq 1 ?_
  refine Fa (.int .i64 1) ?_
  apply F.es
  apply h13
  refine wp_ret ?_
  try simp only [Exit.then]
  refine ret1 (v := .int .i64 1) rfl kk ?_
  exact ⟨by unfold cmpI; rw [if_neg (by omega), if_pos (by omega)], c8⟩
 refine Fq (.bool false) (r_gtr (m := a) (n := b) rfl ek ek (df q10)) ?_
 apply F.es
 apply h12
 refine wp_cond_false ek ?_
 apply wp_skip
 apply h11
 refine wk fun K14 h14 => ?_
 refine Rq 1 ?_
 refine Fa (.int .i64 0) ?_
 apply F.es
 apply h14
 refine wp_ret ?_
 try simp only [Exit.then]
 refine ret1 (v := .int .i64 0) rfl kk ?_
 exact ⟨by unfold cmpI; rw [if_neg (by omega), if_neg (by omega)], c8⟩
set_option maxRecDepth 100000 in
set_option maxHeartbeats 8000000 in
theorem slCompare_any (A : Option Addr) (n c : Nat) (zs : List Int) (A2 : Option Addr) (n2 c2 : Nat) (ys : List Int) (w : World) (ha : Rd w 1 A n (intsV zs)) (hn : n ≤ 1048576) (hb : Rd w 1 A2 n2 (intsV ys)) (hn2 : n2 ≤ 1048576) :
    Calls Try.prog 145 #[.slice A n c, .slice A2 n2 c2] w fun e w' => e = .returned (.int .i64 (cmpL zs ys)) ∧ Below w.heap.size w w' := by
 have hl := rd_ints_len ha
 have hl2 := rd_ints_len hb
 go_enter Try.func145, Try.ntmps145
 refine F.begin 36 [(0, .slice A n c), (1, .slice A2 n2 c2)] (fun U0 => ?_)
 refine wk fun K1 h1 => ?_
 refine Rq 1 ?_
 refine Fa (.int .i64 0) ?_
 apply F.es
 apply h1
 refine wk fun K2 h2 => ?_
 refine wk fun K3 h3 => ?_
 refine Rq 3 ?_
 refine Fv (.slice A n c) ?_
 refine Fq (.int .i64 (n : Int)) (r_len (A := A) (n := n) (c := c) rfl ek kk) ?_
 refine Fv (.int .i64 0) ?_
 apply F.es
 apply h3
 refine wp_block ?_
 refine loopK (fun am0 aa0 wl0 => ∃ (k : Nat) , Kn aa0 [(0, .slice A n c), (1, .slice A2 n2 c2), (4, .int .i64 0), (9, .slice A n c), (10, .int .i64 (n : Int)), (11, .int .i64 (k : Int))] 36 ∧ (am0 = n - k) ∧ (k ≤ n) ∧ (k ≤ n2) ∧ (∀ (j : Nat) x y, j < k → zs[j]? = some x → ys[j]? = some y → x = y) ∧ (Below w.heap.size w wl0)) (n - 0) ?_ ?_
 ·exact ⟨0, Kn.of, rfl, (Nat.zero_le _), (Nat.zero_le _), (fun j x y hj => absurd hj (by omega)), (Below.refl _ _)⟩
 rintro am0 aa0 wl0 K4 h4 ⟨k, ⟨U0, rfl⟩, rfl, hk, hk2, heq, c1⟩
 refine wk fun K5 h5 => ?_
 refine Rq 1 ?_
 by_cases q2 : ((k : Int) : Int) < ((n : Int) : Int)
 ·refine Fq (.bool true) (r_lss (m := (k : Int)) (n := (n : Int)) rfl ek ek (dt q2)) ?_
  apply F.es
  apply h5
  refine wk fun K6 h6 => ?_
  refine wp_cond_true ek ?_
  apply wp_skip
  apply h6
  refine wk fun K7 h7 => ?_
  refine wp_block ?_
  refine wk fun K8 h8 => ?_
  refine Rq 5 ?_
  refine Fv (.int .i64 (k : Int)) ?_
  obtain ⟨x3, hx4⟩ := get_of (zs := zs) (k := k) (by have := hl; omega)
  obtain ⟨b5, o6, hA7, hb8, hc9⟩ := Rd.elInt ha hx4
  refine Fq (.pointer (some ⟨b5, o6 + k, none⟩)) (r_idx1 (n := n) (c := c) (k := k) rfl ek hA7 kk kk (by have := hl; omega)) ?_
  refine Fl (.int .i64 x3) (eqS (later c1 hc9)) ?_
  refine Fa (.int .i64 (k : Int)) ?_
  refine Fa (.int .i64 x3) ?_
  apply F.es
  apply h8
  refine wk fun K9 h9 => ?_
  refine wk fun K10 h10 => ?_
  refine Rq 4 ?_
  refine Fv (.int .i64 (k : Int)) ?_
  refine Fv (.slice A2 n2 c2) ?_
  refine Fq (.int .i64 (n2 : Int)) (r_len (A := A2) (n := n2) (c := c2) rfl ek kk) ?_
  by_cases q10 : ((k : Int) : Int) ≥ ((n2 : Int) : Int)
  ·refine Fq (.bool true) (r_geq (m := (k : Int)) (n := (n2 : Int)) rfl ek ek (dt q10)) ?_
   apply F.es
   apply h10
   refine wp_cond_true ek ?_
   refine wk fun K11 h11 => ?_
   refine Rq 1 ?_
   refine Fa (.int .i64 1) ?_
   apply F.es
   apply h11
   refine wp_ret ?_
   try simp only [Exit.then, Exit.inBlock]
   refine ret1 (v := .int .i64 1) rfl kk ?_
   exact ⟨by rw [cmpL_end heq (by omega) (by omega) (by omega), if_neg (by omega), if_pos (by omega)], c1⟩
  refine Fq (.bool false) (r_geq (m := (k : Int)) (n := (n2 : Int)) rfl ek ek (df q10)) ?_
  apply F.es
  apply h10
  refine wp_cond_false ek ?_
  apply wp_skip
  apply h9
  refine wk fun K12 h12 => ?_
  refine Rq 5 ?_
  refine Fv (.slice A2 n2 c2) ?_
  refine Fv (.int .i64 (k : Int)) ?_
  obtain ⟨x11, hx12⟩ := get_of (zs := ys) (k := k) (by have := hl2; omega)
  obtain ⟨b13, o14, hA15, hb16, hc17⟩ := Rd.elInt hb hx12
  refine Fq (.pointer (some ⟨b13, o14 + k, none⟩)) (r_idx1 (n := n2) (c := c2) (k := k) rfl ek hA15 kk kk (by have := hl2; omega)) ?_
  refine Fl (.int .i64 x11) (eqS (later c1 hc17)) ?_
  refine Fa (.int .i64 x11) ?_
  apply F.es
  apply h12
  refine wk fun K13 h13 => ?_
  refine W.region_plain (row := none) [(0, false), (1, false), (2, true), (3, false)] kk ?_
  have s18 := SG.self wl0 none
  refine Fv (.int .i64 x3) ?_
  refine Fv (.int .i64 x11) ?_
  refine Fc [.int .i64 x3, .int .i64 x11] (cmpI_any x3 x11 _) ?_
  rintro e w20 ⟨rfl, b19⟩
  have s21 := SG.of_below s18 b19
  refine ⟨_, rfl, s21, ?_⟩
  apply F.nx
  refine Fa (.int .i64 (cmpI x3 x11)) ?_
  apply F.es
  have c22 := (Sb c1 s21 nkk)
  apply h13
  refine wk fun K14 h14 => ?_
  refine Rq 2 ?_
  refine Fv (.int .i64 (cmpI x3 x11)) ?_
  by_cases q23 : (cmpI x3 x11 : Int) ≠ (0 : Int)
  ·refine Fq (.bool true) (r_neq (m := cmpI x3 x11) (n := 0) rfl ek ek (dt q23)) ?_
   apply F.es
   apply h14
   refine wp_cond_true ek ?_
   refine wk fun K15 h15 => ?_
   refine Rq 2 ?_
   refine Fv (.int .i64 (cmpI x3 x11)) ?_
   refine Fa (.int .i64 (cmpI x3 x11)) ?_
   apply F.es
   apply h15
   refine wp_ret ?_
   try simp only [Exit.then, Exit.inBlock]
   refine ret1 (v := .int .i64 (cmpI x3 x11)) rfl kk ?_
   exact ⟨by rw [cmpL_ne heq hx4 hx12 (by omega)], c22⟩
  refine Fq (.bool false) (r_neq (m := cmpI x3 x11) (n := 0) rfl ek ek (df q23)) ?_
  apply F.es
  apply h14
  refine wp_cond_false ek ?_
  apply wp_skip
  apply h7
  refine Rq 2 ?_
  refine Fq (.int .i64 ((k + 1 : Nat) : Int)) (r_add (m := (k : Int)) (n := 1) (z := ((k + 1 : Nat) : Int)) rfl ek ek (by omega) (by omega)) ?_
  refine Fv (.int .i64 ((k + 1 : Nat) : Int)) ?_
  apply F.es
  exact h4 _ _ _ (by omega : (n - (k + 1)) < _) ⟨k + 1, Kn.of, rfl, (by omega), (by omega), (upto2 heq hx4 hx12 (by omega)), c22⟩
 refine Fq (.bool false) (r_lss (m := (k : Int)) (n := (n : Int)) rfl ek ek (df q2)) ?_
 apply F.es
 apply h5
 refine wk fun K16 h16 => ?_
 refine wp_cond_false ek ?_
 refine wp_exit ?_
 apply h2
 refine wk fun K17 h17 => ?_
 refine wk fun K18 h18 => ?_
 refine Rq 5 ?_
 refine Fv (.slice A n c) ?_
 refine Fq (.int .i64 (n : Int)) (r_len (A := A) (n := n) (c := c) rfl ek kk) ?_
 refine Fv (.slice A2 n2 c2) ?_
 refine Fq (.int .i64 (n2 : Int)) (r_len (A := A2) (n := n2) (c := c2) rfl ek kk) ?_
 by_cases q24 : ((n : Int) : Int) < ((n2 : Int) : Int)
 ·refine Fq (.bool true) (r_lss (m := (n : Int)) (n := (n2 : Int)) rfl ek ek (dt q24)) ?_
  apply F.es
  apply h18
  refine wp_cond_true ek ?_
  refine wk fun K19 h19 => ?_
  refine Rq 1 ?_
  refine Fa (.int .i64 (-1)) ?_
  apply F.es
  apply h19
  refine wp_ret ?_
  try simp only [Exit.then]
  refine ret1 (v := .int .i64 (-1)) rfl kk ?_
  exact ⟨by rw [cmpL_end heq (by omega) (by omega) (by omega), if_pos (by omega)], c1⟩
 refine Fq (.bool false) (r_lss (m := (n : Int)) (n := (n2 : Int)) rfl ek ek (df q24)) ?_
 apply F.es
 apply h18
 refine wp_cond_false ek ?_
 apply wp_skip
 apply h17
 refine wk fun K20 h20 => ?_
 refine Rq 1 ?_
 refine Fa (.int .i64 0) ?_
 apply F.es
 apply h20
 refine wp_ret ?_
 try simp only [Exit.then]
 refine ret1 (v := .int .i64 0) rfl kk ?_
 exact ⟨by rw [cmpL_end heq (by omega) (by omega) (by omega), if_neg (by omega), if_neg (by omega)], c1⟩
set_option maxRecDepth 100000 in
set_option maxHeartbeats 8000000 in
theorem slIndexFunc_any (A : Option Addr) (n c : Nat) (zs : List Int) (g : FuncId) (lb : Array Value) (q : Int → Bool) (w : World) (ha : Rd w 1 A n (intsV zs)) (hn : n ≤ 1048576) (he : enters Try.prog g = true) (HG : ∀ W (z : Int), Below w.heap.size w W → Calls Try.prog g (#[.int .i64 z] ++ lb) W fun e w' => e = .returned (.bool (q z)) ∧ Below W.heap.size W w') :
    Calls Try.prog 152 #[.slice A n c, .func (.func g) #[] lb] w fun e w' => e = .returned (.int .i64 (idxI q zs)) ∧ Below w.heap.size w w' := by
 have hl := rd_ints_len ha
 go_enter Try.func152, Try.ntmps152
 refine F.begin 19 [(0, .slice A n c), (1, .func (.func g) #[] lb)] (fun U0 => ?_)
 refine wk fun K1 h1 => ?_
 refine Rq 1 ?_
 refine Fa (.int .i64 0) ?_
 apply F.es
 apply h1
 refine wk fun K2 h2 => ?_
 refine wk fun K3 h3 => ?_
 refine Rq 3 ?_
 refine Fv (.slice A n c) ?_
 refine Fq (.int .i64 (n : Int)) (r_len (A := A) (n := n) (c := c) rfl ek kk) ?_
 refine Fv (.int .i64 0) ?_
 apply F.es
 apply h3
 refine wp_block ?_
 refine loopK (fun am0 aa0 wl0 => ∃ (k : Nat) , Kn aa0 [(0, .slice A n c), (1, .func (.func g) #[] lb), (4, .int .i64 0), (7, .int .i64 (n : Int)), (8, .int .i64 (k : Int))] 19 ∧ (am0 = n - k) ∧ (k ≤ n) ∧ (∀ j z, j < k → zs[j]? = some z → q z = false) ∧ (Below w.heap.size w wl0)) (n - 0) ?_ ?_
 ·exact ⟨0, Kn.of, rfl, (Nat.zero_le _), (fun j z hj => absurd hj (by omega)), (Below.refl _ _)⟩
 rintro am0 aa0 wl0 K4 h4 ⟨k, ⟨U0, rfl⟩, rfl, hk, hno, c1⟩
 refine wk fun K5 h5 => ?_
 refine Rq 1 ?_
 by_cases q2 : ((k : Int) : Int) < ((n : Int) : Int)
 ·refine Fq (.bool true) (r_lss (m := (k : Int)) (n := (n : Int)) rfl ek ek (dt q2)) ?_
  apply F.es
  apply h5
  refine wk fun K6 h6 => ?_
  refine wp_cond_true ek ?_
  apply wp_skip
  apply h6
  refine wk fun K7 h7 => ?_
  refine wp_block ?_
  refine wk fun K8 h8 => ?_
  refine Rq 2 ?_
  refine Fv (.int .i64 (k : Int)) ?_
  refine Fa (.int .i64 (k : Int)) ?_
  apply F.es
  apply h8
  refine wk fun K9 h9 => ?_
  refine W.region_plain (row := none) [(0, false), (1, false), (2, false), (3, false), (4, false), (5, true)] kk ?_
  have s3 := SG.self wl0 none
  refine Fv (.func (.func g) #[] lb) ?_
  refine Fv (.slice A n c) ?_
  refine Fv (.int .i64 (k : Int)) ?_
  obtain ⟨x4, hx5⟩ := get_of (zs := zs) (k := k) (by have := hl; omega)
  obtain ⟨b6, o7, hA8, hb9, hc10⟩ := Rd.elInt ha hx5
  refine Fq (.pointer (some ⟨b6, o7 + k, none⟩)) (r_idx1 (n := n) (c := c) (k := k) rfl ek hA8 kk kk (by have := hl; omega)) ?_
  refine Fl (.int .i64 x4) (sgS (later c1 hc10) (by simp)) ?_
  refine W.scv (vs := [.int .i64 x4]) (g := g) (lb := lb) rfl rfl kk kk he kk rfl (HG _ x4 ((Sb c1 s3 nkk))) ?_
  rintro e w12 ⟨rfl, b11⟩
  have s13 := SG.of_below s3 b11
  refine ⟨_, rfl, s13, ?_⟩
  apply F.nx
  rcases Bool.eq_false_or_eq_true (q x4) with q14 | q14
  ·rw [q14]
   apply F.es
   have c15 := (Sb c1 s13 nkk)
   apply h9
   refine wp_cond_true ek ?_
   refine wk fun K10 h10 => ?_
   refine Rq 2 ?_
   refine Fv (.int .i64 (k : Int)) ?_
   refine Fa (.int .i64 (k : Int)) ?_
   apply F.es
   apply h10
   refine wp_ret ?_
   try simp only [Exit.then, Exit.inBlock]
   refine ret1 (v := .int .i64 (k : Int)) rfl kk ?_
   exact ⟨by rw [idxI_at hno hx5 q14], c15⟩
  rw [q14]
  apply F.es
  have c16 := (Sb c1 s13 nkk)
  apply h9
  refine wp_cond_false ek ?_
  apply wp_skip
  apply h7
  refine Rq 2 ?_
  refine Fq (.int .i64 ((k + 1 : Nat) : Int)) (r_add (m := (k : Int)) (n := 1) (z := ((k + 1 : Nat) : Int)) rfl ek ek (by omega) (by omega)) ?_
  refine Fv (.int .i64 ((k + 1 : Nat) : Int)) ?_
  apply F.es
  exact h4 _ _ _ (by omega : (n - (k + 1)) < _) ⟨k + 1, Kn.of, rfl, (by omega), (upto_succ (Q := fun z => q z = false) hno hx5 q14), c16⟩
 refine Fq (.bool false) (r_lss (m := (k : Int)) (n := (n : Int)) rfl ek ek (df q2)) ?_
 apply F.es
 apply h5
 refine wk fun K11 h11 => ?_
 refine wp_cond_false ek ?_
 refine wp_exit ?_
 apply h2
 refine wk fun K12 h12 => ?_
 refine Rq 1 ?_
 refine Fa (.int .i64 (-1)) ?_
 apply F.es
 apply h12
 refine wp_ret ?_
 try simp only [Exit.then]
 refine ret1 (v := .int .i64 (-1)) rfl kk ?_
 exact ⟨by rw [idxI_none (fun j z hj => hno j z (by omega))], c1⟩
set_option maxRecDepth 100000 in
set_option maxHeartbeats 8000000 in
theorem slContainsFunc_any (A : Option Addr) (n c : Nat) (zs : List Int) (g : FuncId) (lb : Array Value) (q : Int → Bool) (w : World) (ha : Rd w 1 A n (intsV zs)) (hn : n ≤ 1048576) (he : enters Try.prog g = true) (HG : ∀ W (z : Int), Below w.heap.size w W → Calls Try.prog g (#[.int .i64 z] ++ lb) W fun e w' => e = .returned (.bool (q z)) ∧ Below W.heap.size W w') :
    Calls Try.prog 139 #[.slice A n c, .func (.func g) #[] lb] w fun e w' => e = .returned (.bool (zs.any q)) ∧ Below w.heap.size w w' := by
 have hl := rd_ints_len ha
 go_enter Try.func139, Try.ntmps139
 refine F.begin 9 [(0, .slice A n c), (1, .func (.func g) #[] lb)] (fun U0 => ?_)
 refine wk fun K1 h1 => ?_
 refine Rq 1 ?_
 refine Fa (.bool false) ?_
 apply F.es
 apply h1
 refine wk fun K2 h2 => ?_
 refine W.region_plain (row := none) [(0, false), (1, false), (2, true), (3, false), (4, false)] kk ?_
 have s1 := SG.self w none
 refine Fv (.slice A n c) ?_
 refine Fv (.func (.func g) #[] lb) ?_
 refine Fc [.slice A n c, .func (.func g) #[] lb] (slIndexFunc_any A n c zs g lb q _ (Rk ha (Sb (Below.refl _ _) s1 nkk)) (by omega) he (fun W v hW => HG W v (((Sb (Below.refl _ _) s1 nkk)).trans (hW.mono ((Sb (Below.refl _ _) s1 nkk)).size)))) ?_
 rintro e w3 ⟨rfl, b2⟩
 have s4 := SG.of_below s1 b2
 refine ⟨_, rfl, s4, ?_⟩
 apply F.nx
 by_cases q5 : (idxI q zs : Int) ≥ (0 : Int)
 ·refine Fq (.bool true) (r_geq (m := idxI q zs) (n := 0) rfl ek ek (dt q5)) ?_
  refine Fa (.bool true) ?_
  apply F.es
  have c6 := (Sb (Below.refl _ _) s4 nkk)
  apply h2
  refine wp_ret ?_
  try simp only [Exit.then]
  refine ret1 (v := .bool true) rfl kk ?_
  exact ⟨by rw [← idxI_pos, decide_eq_true q5], c6⟩
 refine Fq (.bool false) (r_geq (m := idxI q zs) (n := 0) rfl ek ek (df q5)) ?_
 refine Fa (.bool false) ?_
 apply F.es
 have c7 := (Sb (Below.refl _ _) s4 nkk)
 apply h2
 refine wp_ret ?_
 try simp only [Exit.then]
 refine ret1 (v := .bool false) rfl kk ?_
 exact ⟨by rw [← idxI_pos, decide_eq_false q5], c7⟩
set_option maxRecDepth 100000 in
set_option maxHeartbeats 8000000 in
theorem ascending_any (A : Option Addr) (n c : Nat) (zs : List Int) (lo hi : Int) (w : World) (ha : Rd w 1 A n (intsV zs)) (hn : n ≤ 1048576) :
    Calls Try.prog 112 #[.slice A n c, .int .i64 lo, .int .i64 hi] w fun e w' => e = .returned (.bool (riseL lo hi zs)) ∧ Below w.heap.size w w' := by
 have hl := rd_ints_len ha
 go_enter Try.func112, Try.ntmps112
 refine F.begin 35 [(0, .slice A n c), (1, .int .i64 lo), (2, .int .i64 hi)] (fun U0 => ?_)
 refine wk fun K1 h1 => ?_
 refine Rq 1 ?_
 refine Fa (.bool false) ?_
 apply F.es
 apply h1
 refine wk fun K2 h2 => ?_
 refine wk fun K3 h3 => ?_
 refine Rq 3 ?_
 refine Fv (.slice A n c) ?_
 refine Fq (.int .i64 (n : Int)) (r_len (A := A) (n := n) (c := c) rfl ek kk) ?_
 refine Fv (.int .i64 0) ?_
 apply F.es
 apply h3
 refine wp_block ?_
 refine loopK (fun am0 aa0 wl0 => ∃ (K : Nat) , Kn aa0 [(0, .slice A n c), (1, .int .i64 lo), (2, .int .i64 hi), (6, .bool false), (9, .slice A n c), (10, .int .i64 (n : Int)), (11, .int .i64 (K : Int))] 35 ∧ (am0 = n - K) ∧ (K ≤ n) ∧ (riseTo lo hi zs K = true) ∧ (Below w.heap.size w wl0)) (n - 0) ?_ ?_
 ·exact ⟨0, Kn.of, rfl, (Nat.zero_le _), rfl, (Below.refl _ _)⟩
 rintro am0 aa0 wl0 K4 h4 ⟨K, ⟨U0, rfl⟩, rfl, hk, hok, c1⟩
 refine wk fun K5 h5 => ?_
 refine Rq 1 ?_
 by_cases q2 : ((K : Int) : Int) < ((n : Int) : Int)
 ·refine Fq (.bool true) (r_lss (m := (K : Int)) (n := (n : Int)) rfl ek ek (dt q2)) ?_
  apply F.es
  apply h5
  refine wk fun K6 h6 => ?_
  refine wp_cond_true ek ?_
  apply wp_skip
  apply h6
  refine wk fun K7 h7 => ?_
  refine wp_block ?_
  refine wk fun K8 h8 => ?_
  refine Rq 5 ?_
  refine Fv (.int .i64 (K : Int)) ?_
  obtain ⟨x3, hx4⟩ := get_of (zs := zs) (k := K) (by have := hl; omega)
  obtain ⟨b5, o6, hA7, hb8, hc9⟩ := Rd.elInt ha hx4
  refine Fq (.pointer (some ⟨b5, o6 + K, none⟩)) (r_idx1 (n := n) (c := c) (k := K) rfl ek hA7 kk kk (by have := hl; omega)) ?_
  refine Fl (.int .i64 x3) (eqS (later c1 hc9)) ?_
  refine Fa (.int .i64 (K : Int)) ?_
  refine Fa (.int .i64 x3) ?_
  apply F.es
  apply h8
  refine wk fun K9 h9 => ?_
  refine W.region_plain (row := none) [(0, false), (1, false), (2, false), (3, true), (4, false), (5, false), (6, false), (7, false), (8, false), (9, false), (10, false), (11, false), (12, false), (13, false), (14, false), (15, false), (16, false), (17, false)] kk ?_
  have s10 := SG.self wl0 none
  refine Fv (.int .i64 x3) ?_
  refine Fv (.int .i64 lo) ?_
  refine Fv (.int .i64 hi) ?_
  refine Fc [.int .i64 x3, .int .i64 lo, .int .i64 hi] (inside_any x3 lo hi _) ?_
  rintro e w' ⟨rfl, rfl⟩
  refine ⟨_, rfl, s10, ?_⟩
  apply F.nx
  rcases Bool.eq_false_or_eq_true (inB x3 lo hi) with q13 | q13
  ·rw [q13]
   refine Fq (.bool false) (r_not (b := true) rfl ek rfl) ?_
   refine Fv (.bool false) ?_
   refine Fv (.int .i64 (K : Int)) ?_
   by_cases q14 : ((K : Int) : Int) > (0 : Int)
   ·obtain ⟨k, rfl⟩ : ∃ k, K = k + 1 := ⟨K - 1, by omega⟩
    refine Fq (.bool true) (r_gtr (m := (((k + 1) : Nat) : Int)) (n := 0) rfl ek ek (dt q14)) ?_
    refine Fv (.bool true) ?_
    refine Fv (.slice A n c) ?_
    refine Fv (.int .i64 (((k + 1) : Nat) : Int)) ?_
    refine Fq (.int .i64 (k : Int)) (r_sub (m := (((k + 1) : Nat) : Int)) (n := 1) (z := (k : Int)) rfl ek ek (by omega) (by omega)) ?_
    obtain ⟨x15, hx16⟩ := get_of (zs := zs) (k := k) (by have := hl; omega)
    obtain ⟨b17, o18, hA19, hb20, hc21⟩ := Rd.elInt ha hx16
    refine Fq (.pointer (some ⟨b17, o18 + k, none⟩)) (r_idx1 (n := n) (c := c) (k := k) rfl ek hA19 kk kk (by have := hl; omega)) ?_
    refine Fl (.int .i64 x15) (sgS (later c1 hc21) (by simp)) ?_
    refine Fv (.int .i64 x3) ?_
    by_cases q22 : (x15 : Int) ≥ (x3 : Int)
    ·refine Fq (.bool true) (r_geq (m := x15) (n := x3) rfl ek ek (dt q22)) ?_
     refine Fq (.bool true) (r_pick (b := true) rfl ek ek) ?_
     refine Fq (.bool true) (r_pick (b := false) rfl ek ek) ?_
     apply F.es
     have c23 := (Sb c1 s10 nkk)
     apply h9
     refine wp_cond_true ek ?_
     refine wk fun K10 h10 => ?_
     refine Rq 1 ?_
     refine Fa (.bool false) ?_
     apply F.es
     apply h10
     refine wp_ret ?_
     try simp only [Exit.then, Exit.inBlock]
     refine ret1 (v := .bool false) rfl kk ?_
     have e8 : okI lo hi zs (k + 1) = false := (by rw [okI_next hx4 hx16, decide_eq_false (by omega), Bool.and_false])
     exact ⟨ret_bool (riseL_bad (k := k + 1) (by omega) e8).symm, c23⟩
    refine Fq (.bool false) (r_geq (m := x15) (n := x3) rfl ek ek (df q22)) ?_
    refine Fq (.bool false) (r_pick (b := true) rfl ek ek) ?_
    refine Fq (.bool false) (r_pick (b := false) rfl ek ek) ?_
    apply F.es
    have c24 := (Sb c1 s10 nkk)
    apply h9
    refine wp_cond_false ek ?_
    apply wp_skip
    apply h7
    refine Rq 2 ?_
    refine Fq (.int .i64 (((k + 1) + 1 : Nat) : Int)) (r_add (m := (((k + 1) : Nat) : Int)) (n := 1) (z := (((k + 1) + 1 : Nat) : Int)) rfl ek ek (by omega) (by omega)) ?_
    refine Fv (.int .i64 (((k + 1) + 1 : Nat) : Int)) ?_
    apply F.es
    exact h4 _ _ _ (by omega : (n - (k + 1 + 1)) < _) ⟨k + 1 + 1, Kn.of, rfl, (by omega), (riseTo_next hok (by rw [okI_next hx4 hx16, q13, decide_eq_true (by omega)]; try rfl)), c24⟩
   refine Fq (.bool false) (r_gtr (m := (K : Int)) (n := 0) rfl ek ek (df q14)) ?_
   refine Fv (.bool false) ?_
   refine Fs s10 ?_
   refine Fs s10 ?_
   refine Fs s10 ?_
   refine Fs s10 ?_
   refine Fs s10 ?_
   refine Fs s10 ?_
   refine Fs s10 ?_
   refine Fq (.bool false) (r_pick (b := false) rfl ek ek) ?_
   refine Fq (.bool false) (r_pick (b := false) rfl ek ek) ?_
   apply F.es
   have c25 := (Sb c1 s10 nkk)
   apply h9
   refine wp_cond_false ek ?_
   apply wp_skip
   apply h7
   refine Rq 2 ?_
   refine Fq (.int .i64 ((K + 1 : Nat) : Int)) (r_add (m := (K : Int)) (n := 1) (z := ((K + 1 : Nat) : Int)) rfl ek ek (by omega) (by omega)) ?_
   refine Fv (.int .i64 ((K + 1 : Nat) : Int)) ?_
   apply F.es
   exact h4 _ _ _ (by omega : (n - (K + 1)) < _) ⟨K + 1, Kn.of, rfl, (by omega), (riseTo_next hok (by have e0 : K = 0 := (by omega); subst e0; rw [okI_zero hx4]; exact q13)), c25⟩
  rw [q13]
  refine Fq (.bool true) (r_not (b := false) rfl ek rfl) ?_
  refine Fv (.bool true) ?_
  refine Fs s10 ?_
  refine Fs s10 ?_
  refine Fs s10 ?_
  refine Fs s10 ?_
  refine Fs s10 ?_
  refine Fs s10 ?_
  refine Fs s10 ?_
  refine Fs s10 ?_
  refine Fs s10 ?_
  refine Fs s10 ?_
  refine Fs s10 ?_
  refine Fq (.bool true) (r_pick (b := true) rfl ek ek) ?_
  apply F.es
  have c26 := (Sb c1 s10 nkk)
  apply h9
  refine wp_cond_true ek ?_
  refine wk fun K11 h11 => ?_
  refine Rq 1 ?_
  refine Fa (.bool false) ?_
  apply F.es
  apply h11
  refine wp_ret ?_
  try simp only [Exit.then, Exit.inBlock]
  refine ret1 (v := .bool false) rfl kk ?_
  have e8 : okI lo hi zs (K) = false := okI_out hx4 q13
  exact ⟨ret_bool (riseL_bad (k := K) (by omega) e8).symm, c26⟩
 refine Fq (.bool false) (r_lss (m := (K : Int)) (n := (n : Int)) rfl ek ek (df q2)) ?_
 apply F.es
 apply h5
 refine wk fun K12 h12 => ?_
 refine wp_cond_false ek ?_
 refine wp_exit ?_
 apply h2
 refine wk fun K13 h13 => ?_
 refine Rq 1 ?_
 refine Fa (.bool true) ?_
 apply F.es
 apply h13
 refine wp_ret ?_
 try simp only [Exit.then]
 refine ret1 (v := .bool true) rfl kk ?_
 have e8 : riseL lo hi zs = true := by unfold riseL; rw [show zs.length = K by omega]; exact hok
 exact ⟨ret_bool e8.symm, c1⟩
set_option maxRecDepth 100000 in
set_option maxHeartbeats 8000000 in
theorem l1Rising_any (A : Option Addr) (n c : Nat) (zs : List Int) (lo hi : Int) (w : World) (ha : Rd w 1 A n (intsV zs)) (hn : n ≤ 1048576) :
    Calls Try.prog 148 #[.slice A n c, .int .i64 lo, .int .i64 hi] w fun e w' => e = .returned (.bool (riseL lo hi zs)) ∧ Below w.heap.size w w' := by
 have hl := rd_ints_len ha
 go_enter Try.func148, Try.ntmps148
 refine F.begin 38 [(0, .slice A n c), (1, .int .i64 lo), (2, .int .i64 hi)] (fun U0 => ?_)
 refine wk fun K1 h1 => ?_
 refine Rq 1 ?_
 refine Fa (.bool false) ?_
 apply F.es
 apply h1
 refine wk fun K2 h2 => ?_
 refine wk fun K3 h3 => ?_
 refine Rq 1 ?_
 refine Fa (.int .i64 0) ?_
 apply F.es
 apply h3
 refine wp_block ?_
 refine loopK (fun am0 aa0 wl0 => ∃ (K : Nat) , Kn aa0 [(0, .slice A n c), (1, .int .i64 lo), (2, .int .i64 hi), (6, .bool false), (7, .int .i64 (K : Int))] 38 ∧ (am0 = n - K) ∧ (K ≤ n) ∧ (riseTo lo hi zs K = true) ∧ (Below w.heap.size w wl0)) (n - 0) ?_ ?_
 ·exact ⟨0, Kn.of, rfl, (Nat.zero_le _), rfl, (Below.refl _ _)⟩
 rintro am0 aa0 wl0 K4 h4 ⟨K, ⟨U0, rfl⟩, rfl, hk, hok, c1⟩
 refine wk fun K5 h5 => ?_
 refine wk fun K6 h6 => ?_
 refine Rq 4 ?_
 refine Fv (.int .i64 (K : Int)) ?_
 refine Fv (.slice A n c) ?_
 refine Fq (.int .i64 (n : Int)) (r_len (A := A) (n := n) (c := c) rfl ek kk) ?_
 by_cases q2 : ((K : Int) : Int) < ((n : Int) : Int)
 ·refine Fq (.bool true) (r_lss (m := (K : Int)) (n := (n : Int)) rfl ek ek (dt q2)) ?_
  apply F.es
  apply h6
  refine wp_cond_true ek ?_
  apply wp_skip
  apply h5
  refine wk fun K7 h7 => ?_
  refine wp_block ?_
  refine wk fun K8 h8 => ?_
  refine W.region_sch (row := none) (Sch.of [(0, false), (1, false), (2, false), (3, false), (4, false), (5, false), (6, true), (7, false), (8, false), (9, false), (10, false), (11, false), (12, false), (13, false), (14, false), (15, false), (16, false), (17, false), (18, false), (19, false), (20, false), (21, false), (22, false), (23, false)]) kk kk (fun _ d _ _ _ h => by cases d <;> exact h) kk (fun w3 e4 s5 => ?_)
  refine Fv (.slice A n c) ?_
  refine Fv (.int .i64 (K : Int)) ?_
  obtain ⟨x6, hx7⟩ := get_of (zs := zs) (k := K) (by have := hl; omega)
  obtain ⟨b8, o9, hA10, hb11, hc12⟩ := Rd.elInt ha hx7
  refine Fq (.pointer (some ⟨b8, o9 + K, none⟩)) (r_idx1 (n := n) (c := c) (k := K) rfl ek hA10 kk kk (by have := hl; omega)) ?_
  refine Fl (.int .i64 x6) (sgS (later c1 hc12) (by simp)) ?_
  refine Fv (.int .i64 lo) ?_
  refine Fv (.int .i64 hi) ?_
  refine Fc [.int .i64 x6, .int .i64 lo, .int .i64 hi] (l1In_any x6 lo hi _) ?_
  rintro e w' ⟨rfl, rfl⟩
  refine ⟨_, rfl, s5, ?_⟩
  apply F.nx
  rcases Bool.eq_false_or_eq_true (inB x6 lo hi) with q15 | q15
  ·rw [q15]
   refine Fq (.bool false) (r_not (b := true) rfl ek rfl) ?_
   refine Fv (.bool false) ?_
   refine Fv (.int .i64 (K : Int)) ?_
   by_cases q16 : ((K : Int) : Int) > (0 : Int)
   ·obtain ⟨k, rfl⟩ : ∃ k, K = k + 1 := ⟨K - 1, by omega⟩
    refine Fq (.bool true) (r_gtr (m := (((k + 1) : Nat) : Int)) (n := 0) rfl ek ek (dt q16)) ?_
    refine Fv (.bool true) ?_
    refine Fv (.slice A n c) ?_
    refine Fv (.int .i64 (((k + 1) : Nat) : Int)) ?_
    refine Fq (.int .i64 (k : Int)) (r_sub (m := (((k + 1) : Nat) : Int)) (n := 1) (z := (k : Int)) rfl ek ek (by omega) (by omega)) ?_
    obtain ⟨x17, hx18⟩ := get_of (zs := zs) (k := k) (by have := hl; omega)
    obtain ⟨b19, o20, hA21, hb22, hc23⟩ := Rd.elInt ha hx18
    refine Fq (.pointer (some ⟨b19, o20 + k, none⟩)) (r_idx1 (n := n) (c := c) (k := k) rfl ek hA21 kk kk (by have := hl; omega)) ?_
    refine Fl (.int .i64 x17) (sgS (later c1 hc23) (by simp)) ?_
    refine Fv (.slice A n c) ?_
    refine Fv (.int .i64 (((k + 1) : Nat) : Int)) ?_
    refine Fq (.pointer (some ⟨b8, o9 + (k + 1), none⟩)) (r_idx1 (n := n) (c := c) (k := (k + 1)) rfl ek hA10 kk kk (by have := hl; omega)) ?_
    refine Fl (.int .i64 x6) (sgS (later c1 hc12) (by simp)) ?_
    by_cases q24 : (x17 : Int) ≥ (x6 : Int)
    ·refine Fq (.bool true) (r_geq (m := x17) (n := x6) rfl ek ek (dt q24)) ?_
     refine Fq (.bool true) (r_pick (b := true) rfl ek ek) ?_
     refine Fq (.bool true) (r_pick (b := false) rfl ek ek) ?_
     apply F.es
     have c25 := (Sb c1 s5 nkk)
     apply h8
     refine wp_cond_true ek ?_
     refine wk fun K9 h9 => ?_
     refine Rq 1 ?_
     refine Fa (.bool false) ?_
     apply F.es
     apply h9
     refine wp_ret ?_
     try simp only [Exit.then, Exit.inBlock]
     refine ret1 (v := .bool false) rfl kk ?_
     have e8 : okI lo hi zs (k + 1) = false := (by rw [okI_next hx7 hx18, decide_eq_false (by omega), Bool.and_false])
     exact ⟨ret_bool (riseL_bad (k := k + 1) (by omega) e8).symm, c25⟩
    refine Fq (.bool false) (r_geq (m := x17) (n := x6) rfl ek ek (df q24)) ?_
    refine Fq (.bool false) (r_pick (b := true) rfl ek ek) ?_
    refine Fq (.bool false) (r_pick (b := false) rfl ek ek) ?_
    apply F.es
    have c26 := (Sb c1 s5 nkk)
    apply h8
    refine wp_cond_false ek ?_
    apply wp_skip
    apply h7
    refine Rq 3 ?_
    refine Fv (.int .i64 (((k + 1) : Nat) : Int)) ?_
    refine Fq (.int .i64 (((k + 1) + 1 : Nat) : Int)) (r_add (m := (((k + 1) : Nat) : Int)) (n := 1) (z := (((k + 1) + 1 : Nat) : Int)) rfl ek ek (by omega) (by omega)) ?_
    refine Fa (.int .i64 (((k + 1) + 1 : Nat) : Int)) ?_
    apply F.es
    exact h4 _ _ _ (by omega : (n - (k + 1 + 1)) < _) ⟨k + 1 + 1, Kn.of, rfl, (by omega), (riseTo_next hok (by rw [okI_next hx7 hx18, q15, decide_eq_true (by omega)]; try rfl)), c26⟩
   refine Fq (.bool false) (r_gtr (m := (K : Int)) (n := 0) rfl ek ek (df q16)) ?_
   refine Fv (.bool false) ?_
   refine Fs s5 ?_
   refine Fs s5 ?_
   refine Fs s5 ?_
   refine Fs s5 ?_
   refine Fs s5 ?_
   refine Fs s5 ?_
   refine Fs s5 ?_
   refine Fs s5 ?_
   refine Fs s5 ?_
   refine Fs s5 ?_
   refine Fq (.bool false) (r_pick (b := false) rfl ek ek) ?_
   refine Fq (.bool false) (r_pick (b := false) rfl ek ek) ?_
   apply F.es
   have c27 := (Sb c1 s5 nkk)
   apply h8
   refine wp_cond_false ek ?_
   apply wp_skip
   apply h7
   refine Rq 3 ?_
   refine Fv (.int .i64 (K : Int)) ?_
   refine Fq (.int .i64 ((K + 1 : Nat) : Int)) (r_add (m := (K : Int)) (n := 1) (z := ((K + 1 : Nat) : Int)) rfl ek ek (by omega) (by omega)) ?_
   refine Fa (.int .i64 ((K + 1 : Nat) : Int)) ?_
   apply F.es
   exact h4 _ _ _ (by omega : (n - (K + 1)) < _) ⟨K + 1, Kn.of, rfl, (by omega), (riseTo_next hok (by have e0 : K = 0 := (by omega); subst e0; rw [okI_zero hx7]; exact q15)), c27⟩
  rw [q15]
  refine Fq (.bool true) (r_not (b := false) rfl ek rfl) ?_
  refine Fv (.bool true) ?_
  refine Fs s5 ?_
  refine Fs s5 ?_
  refine Fs s5 ?_
  refine Fs s5 ?_
  refine Fs s5 ?_
  refine Fs s5 ?_
  refine Fs s5 ?_
  refine Fs s5 ?_
  refine Fs s5 ?_
  refine Fs s5 ?_
  refine Fs s5 ?_
  refine Fs s5 ?_
  refine Fs s5 ?_
  refine Fs s5 ?_
  refine Fq (.bool true) (r_pick (b := true) rfl ek ek) ?_
  apply F.es
  have c28 := (Sb c1 s5 nkk)
  apply h8
  refine wp_cond_true ek ?_
  refine wk fun K10 h10 => ?_
  refine Rq 1 ?_
  refine Fa (.bool false) ?_
  apply F.es
  apply h10
  refine wp_ret ?_
  try simp only [Exit.then, Exit.inBlock]
  refine ret1 (v := .bool false) rfl kk ?_
  have e8 : okI lo hi zs (K) = false := okI_out hx7 q15
  exact ⟨ret_bool (riseL_bad (k := K) (by omega) e8).symm, c28⟩
 refine Fq (.bool false) (r_lss (m := (K : Int)) (n := (n : Int)) rfl ek ek (df q2)) ?_
 apply F.es
 apply h6
 refine wp_cond_false ek ?_
 refine wp_exit ?_
 apply h2
 refine wk fun K11 h11 => ?_
 refine Rq 1 ?_
 refine Fa (.bool true) ?_
 apply F.es
 apply h11
 refine wp_ret ?_
 try simp only [Exit.then]
 refine ret1 (v := .bool true) rfl kk ?_
 have e8 : riseL lo hi zs = true := by unfold riseL; rw [show zs.length = K by omega]; exact hok
 exact ⟨ret_bool e8.symm, c1⟩
end Go.Proofs.Ytdbgfejeleafgaa
namespace Go.Proofs.Ytdbgfejeleafgaa
open Go.RowKit
set_option linter.unusedVariables false
set_option linter.unusedSimpArgs false
abbrev idQ (a : Int) : Vv → Bool := fun v => decide (v.id = a)
set_option maxRecDepth 100000 in
set_option maxHeartbeats 8000000 in
theorem l4Turned_any (A2 : Option Addr) (n2 c2 : Nat) (vs : List Vv) (k : Nat) (x : Vv) (b : Bool) (w : World) (hb : Rd w 4 A2 n2 (valvesV vs)) (hn2 : n2 ≤ 1048576) (hfm2 : Fm A2 n2 c2) (hx : vs[k]? = some x) :
    Calls Try.prog 94 #[.slice A2 n2 c2, .int .i64 ((k : Nat) : Int), .bool b] w fun e w' => ∃ A' n' c', e = .returned (.slice A' n' c') ∧ w'.ownsRow w.heap.size 40 4 (.slice A' n' c') n' (valvesV (vs.set k { x with shut := b })) ∧ Below w.heap.size w w' := by
 have hl2 := rd_valves_len hb
 have hk9 := (List.getElem?_eq_some_iff.1 hx).1
 go_enter Try.func94, Try.ntmps94
 refine F.begin 23 [(0, .slice A2 n2 c2), (1, .int .i64 (k : Int)), (2, .bool b)] (fun U0 => ?_)
 refine wk fun K1 h1 => ?_
 refine Rq 1 ?_
 refine Fa (.slice none 0 0) ?_
 apply F.es
 apply h1
 refine wk fun K2 h2 => ?_
 refine W.region_plain (row := none) [(0, true), (1, false), (2, true), (3, false)] kk ?_
 have s1 := SG.self w none
 refine W.sn (fun b => .slice (some ⟨b, 0, none⟩) 0 0) #[] 40 s1 rfl kk rfl (fun _ => by kernel_rfl) (fun b2 w3 hb4 k5 x6 s7 => ?_)
 apply F.nx
 have lo8 : w.heap.size ≤ b2 := Nl ((Sb (Below.refl _ _) s1 nkk)).size (Nat.le_of_eq hb4)
 refine Fv (.slice A2 n2 c2) ?_
 have ho9 := own_empty (base := w.heap.size) (size := 4) x6 lo8
 replace ho9 : World.ownsRow _ _ _ _ _ _ (valvesV []) := ho9
 replace ho9 : World.ownsRow _ _ _ _ _ _ (valvesV []) := ho9
 refine W.sapR (e := 40) (size := 4) (base := w.heap.size) (v := .slice (some ⟨b2, 0, none⟩) 0 0) (A := A2) (m := n2) (c := c2) s7 rfl rfl rfl rfl kk kk kk ho9 (Rk hb (Sb (Below.refl _ _) s7 nkk)) hfm2 (valves_one _) (by omega) (by have := ((Sb (Below.refl _ _) s7 nkk)).size; omega) (.inr (fun kq e => by have := (s1).size; have := hb4; have e' := Option.some.inj e; simp at e'; omega)) (fun A10 cap11 w12 ho13 hg14 hat15 s16 => ?_)
 apply F.nx
 have ho13 := own_joinV ho13
 have fr17 : ∀ kq, (.slice A10 (0 + n2) cap11 : Value).ownBlock = some kq → w.heap.size ≤ kq := fun kq e => by
   have hs := (s7).size
   rcases hat15 with h | h
   · exact (show ∀ kq, Value.ownBlock _ = some kq → w.heap.size ≤ kq from (fun kq e => by have := (s1).size; have := hb4; have e' := Option.some.inj e; simp at e'; omega)) kq (h.symm.trans e)
   · have := Option.some.inj (h.symm.trans e); omega
 replace ho13 : World.ownsRow _ _ _ _ _ _ (valvesV vs) := ho13
 refine Fa (.slice A10 (0 + n2) cap11) ?_
 apply F.es
 have c18 := (Sb (Below.refl _ _) s16 nkk)
 apply h2
 refine wk fun K3 h3 => ?_
 refine W.region_plain (row := none) [(0, false), (1, false), (2, false), (3, false), (4, true), (5, true)] kk ?_
 have s19 := SG.self w12 none
 refine Fv (.slice A10 (0 + n2) cap11) ?_
 refine Fv (.int .i64 (k : Int)) ?_
 obtain ⟨g20, rfl, _, _⟩ := own_addr ho13 (by omega)
 refine Fq (.pointer (some ⟨g20, 0 + k * 4, none⟩)) (r_idx (n := (0 + n2)) (c := cap11) (k := k) (size := 4) rfl ek rfl kk kk (by omega)) ?_
 refine Fq (.agg #[.int .i64 x.id, .int .i64 x.pipe, .int .i64 x.node, .bool x.shut]) (r_load4 rfl ek kk kk (sgS ((own_atV ho13 hx).1) (by simp)) (sgS ((own_atV ho13 hx).2.1) (by simp)) (sgS ((own_atV ho13 hx).2.2.1) (by simp)) (sgS ((own_atV ho13 hx).2.2.2) (by simp))) ?_
 refine W.sn (fun b => .pointer (some ⟨b, 0, none⟩)) #[.int .i64 0, .int .i64 0, .int .i64 0, .bool false] 40 s19 rfl kk rfl (fun _ => by kernel_rfl) (fun b21 w22 hb23 k24 x25 s26 => ?_)
 apply F.nx
 have lo27 : w.heap.size ≤ b21 := Nl ((Sb c18 s19 nkk)).size (Nat.le_of_eq hb23)
 have nb28 : Nb b21 (.slice (some ⟨g20, 0, none⟩) (0 + n2) cap11) := nb_hi ho13 (Nat.le_of_eq hb23)
 have ho29 := own_kept ho13 k24
 refine W.ss (v := .agg #[.int .i64 x.id, .int .i64 x.pipe, .int .i64 x.node, .bool x.shut]) (j := 0) (news := [.int .i64 x.id, .int .i64 x.pipe, .int .i64 x.node, .bool x.shut]) (cs' := #[.int .i64 x.id, .int .i64 x.pipe, .int .i64 x.node, .bool x.shut]) s26 rfl kk rfl rfl kk kk x25 kk kk (by simp) kk kk (.inr (Nl (s19).size (Nat.le_of_eq hb23))) (fun w30 g31 x32 s33 => ?_)
 have ho34 := own_grown ho29 g31 (fun j e1 e2 => by cases e2; exact nb28 e1.symm)
 apply F.es
 have c35 := (Sb c18 s33 nkk)
 apply h3
 refine wk fun K4 h4 => ?_
 refine W.region_plain (row := (some b21)) [(0, false), (1, false), (2, true)] kk ?_
 have s36 := SG.self w30 (some b21)
 refine Fv (.bool b) ?_
 refine Fq (.pointer (some ⟨b21, 3, none⟩)) (r_field (k := 3) rfl ek kk) ?_
 refine W.ss (v := .bool b) (j := 3) (news := [.bool b]) (cs' := #[.int .i64 x.id, .int .i64 x.pipe, .int .i64 x.node, .bool b]) s36 rfl kk rfl rfl kk kk x32 kk kk (by simp) kk kk (.inl rfl) (fun w37 g38 x39 s40 => ?_)
 have ho41 := own_grown ho34 g38 (fun j e1 e2 => by cases e2; exact nb28 e1.symm)
 apply F.es
 have c42 := (Sb c35 s40 (fun kq e => by cases e; exact lo27))
 apply h4
 refine wk fun K5 h5 => ?_
 refine W.region_plain (row := (Value.ownBlock (.slice (some ⟨g20, 0, none⟩) (0 + n2) cap11))) [(0, false), (1, false), (2, false), (3, false), (4, true)] kk ?_
 have s43 := SG.self w37 (Value.ownBlock (.slice (some ⟨g20, 0, none⟩) (0 + n2) cap11))
 refine Fv (.slice (some ⟨g20, 0, none⟩) (0 + n2) cap11) ?_
 refine Fv (.int .i64 (k : Int)) ?_
 refine Fq (.agg #[.int .i64 x.id, .int .i64 x.pipe, .int .i64 x.node, .bool b]) (r_load4 rfl ek kk kk (sgS (blk_cell (j := 0) x39 kk) nb28) (sgS (blk_cell (j := 1) x39 kk) nb28) (sgS (blk_cell (j := 2) x39 kk) nb28) (sgS (blk_cell (j := 3) x39 kk) nb28)) ?_
 refine Fq (.pointer (some ⟨g20, 0 + k * 4, none⟩)) (r_idx (n := (0 + n2)) (c := cap11) (k := k) (size := 4) rfl ek rfl kk kk (by omega)) ?_
 refine W.sst (base := w.heap.size) (e := 40) (size := 4) (n := (0 + n2)) (c := cap11) (j := 0 + k * 4) (u := .agg #[.int .i64 x.id, .int .i64 x.pipe, .int .i64 x.node, .bool b]) (news := [.int .i64 x.id, .int .i64 x.pipe, .int .i64 x.node, .bool b]) s43 rfl kk rfl rfl kk kk ho41 kk kk kk (by simp only [List.length_cons, List.length_nil]; omega) (.inl rfl) (fun w44 ho45 g46 s47 => ?_)
 have ho45 := own_setV hx ⟨x.id, x.pipe, x.node, b⟩ ho45
 apply F.es
 have c48 := (Sb c42 s47 (fun kq e => (World.ownsRow.lt ho41 kq e).1))
 apply h5
 refine wk fun K6 h6 => ?_
 refine Rq 2 ?_
 refine Fv (.slice (some ⟨g20, 0, none⟩) (0 + n2) cap11) ?_
 refine Fa (.slice (some ⟨g20, 0, none⟩) (0 + n2) cap11) ?_
 apply F.es
 apply h6
 refine wp_ret ?_
 try simp only [Exit.then]
 refine ret1 (v := .slice (some ⟨g20, 0, none⟩) (0 + n2) cap11) rfl kk ?_
 exact ⟨_, _, _, rfl, ho45, c48⟩
end Go.Proofs.Ytdbgfejeleafgaa
namespace Go.Proofs.Ytdbgfejeleafgaa
open Go.RowKit
set_option linter.unusedVariables false
set_option linter.unusedSimpArgs false
theorem idxL_hasF {E : Int → Int → Prop} {n : Nat} {a b : Int} (hb : 0 ≤ b ∧ b < n) : (idxL E n a false).contains b = !rb E a (9 + b) := by
  rw [Bool.eq_iff_iff, List.contains_iff_mem, mem_idxL, Bool.not_eq_true']
  exact ⟨fun h => h.2, fun h => ⟨hb, h⟩⟩
def canB (m : Int) (ps : List Pp) (vs : List Vv) (s id : Int) : Bool := goodV m ps vs && inB s 1 m && decide (0 ≤ findL ps id)
theorem canB_of {m : Int} {ps : List Pp} {vs : List Vv} {s id : Int} (h : canB m ps vs s id = true) : GoodVal m ps vs ∧ (1 ≤ s ∧ s ≤ m) ∧ 0 ≤ findL ps id := by
  unfold canB at h
  simp only [Bool.and_eq_true, decide_eq_true_eq] at h
  exact ⟨goodV_of h.1.1, inB_iff.1 h.1.2, h.2⟩
def custOk (m : Int) (cs : List Int) : Bool := decide ((cs.length : Int) = m) && cs.all (fun c => inB c 0 1000)
theorem custOk_of {m : Int} {cs : List Int} (h : custOk m cs = true) : (cs.length : Int) = m ∧ ∀ c, c ∈ cs → 0 ≤ c ∧ c ≤ 1000 := by
  unfold custOk at h
  rw [Bool.and_eq_true, decide_eq_true_eq, List.all_eq_true] at h
  exact ⟨h.1, fun c hc => inB_iff.1 (h.2 c hc)⟩
theorem all_any (cs : List Int) : cs.any (fun c => !inB c 0 1000) = !cs.all (fun c => inB c 0 1000) := by
  induction cs with
  | nil => rfl
  | cons c cs ih => rw [List.any_cons, List.all_cons, ih, Bool.not_and]
noncomputable def harmTo (E : Int → Int → Prop) (s : Int) (cs : List Int) : Nat → Int
  | 0 => 0
  | i + 1 => harmTo E s cs i + (if rb E s ((i : Int) + 1) = false then cs.getD i 0 else 0)
theorem harmTo_bd {E : Int → Int → Prop} {s : Int} {cs : List Int} (h : ∀ c, c ∈ cs → 0 ≤ c ∧ c ≤ 1000) : ∀ i, i ≤ cs.length → 0 ≤ harmTo E s cs i ∧ harmTo E s cs i ≤ 1000 * (i : Int)
  | 0, _ => by simp [harmTo]
  | i + 1, hi => by
    have ih := harmTo_bd (E := E) (s := s) h i (by omega)
    have hx : cs[i]? = some cs[i] := List.getElem?_eq_getElem (by omega)
    have hc := h _ (List.mem_of_getElem? hx)
    unfold harmTo
    rw [List.getD_eq_getElem?_getD, hx]
    simp only [Option.getD_some]
    split <;> omega
theorem harmTo_yes {E : Int → Int → Prop} {s : Int} {cs : List Int} {i : Nat} {c : Int} (hc : cs[i]? = some c) (h : rb E s ((i : Int) + 1) = false) : harmTo E s cs (i + 1) = harmTo E s cs i + c := by
  rw [harmTo, if_pos h, List.getD_eq_getElem?_getD, hc]; rfl
theorem harmTo_no {E : Int → Int → Prop} {s : Int} {cs : List Int} {i : Nat} (h : rb E s ((i : Int) + 1) = true) : harmTo E s cs (i + 1) = harmTo E s cs i := by
  rw [harmTo, if_neg (by rw [h]; simp), Int.add_zero]
def sumAt (cs : List Int) : List Int → Int
  | [] => 0
  | b :: bs => cs.getD (b - 1).toNat 0 + sumAt cs bs
theorem sumAt_app (cs : List Int) : ∀ xs ys : List Int, sumAt cs (xs ++ ys) = sumAt cs xs + sumAt cs ys
  | [], ys => by simp [sumAt]
  | x :: xs, ys => by rw [List.cons_append, sumAt, sumAt, sumAt_app cs xs ys]; omega
theorem sumAt_next {cs xs : List Int} {i : Nat} {b c : Int} (hb : xs[i]? = some b) (hc : cs[(b - 1).toNat]? = some c) : sumAt cs (xs.take (i + 1)) = sumAt cs (xs.take i) + c := by
  rw [List.take_add_one, hb, sumAt_app]
  simp only [Option.toList_some, sumAt, Int.add_zero]
  rw [List.getD_eq_getElem?_getD, hc]; rfl
theorem sumAt_bd {cs : List Int} (h : ∀ c, c ∈ cs → 0 ≤ c ∧ c ≤ 1000) : ∀ xs : List Int, 0 ≤ sumAt cs xs ∧ sumAt cs xs ≤ 1000 * (xs.length : Int)
  | [] => by simp [sumAt]
  | b :: bs => by
    have ih := sumAt_bd h bs
    have hg : 0 ≤ cs.getD (b - 1).toNat 0 ∧ cs.getD (b - 1).toNat 0 ≤ 1000 := by
      rw [List.getD_eq_getElem?_getD]
      cases hc : cs[(b - 1).toNat]? with
      | none => simp
      | some c => exact h c (List.mem_of_getElem? hc)
    rw [sumAt, List.length_cons]; omega
theorem sumAt_harm (E : Int → Int → Prop) (s : Int) (cs : List Int) : ∀ m, sumAt cs (nodesL E m s false) = harmTo E s cs m
  | 0 => rfl
  | m + 1 => by
    rw [nodesL_succ, sumAt_app, sumAt_harm E s cs m, harmTo]
    congr 1
    split
    · simp only [sumAt, Int.add_zero]; rw [show ((m : Int) + 1 - 1).toNat = m by omega]
    · rfl
noncomputable def harmL (ps : List Pp) (vs : List Vv) (s : Int) (cs plan : List Int) : Int := harmTo (linked ps (openQ (shutV vs plan) true)) s cs cs.length
set_option maxRecDepth 100000 in
set_option maxHeartbeats 8000000 in
theorem shutToo_any (A2 : Option Addr) (n2 c2 : Nat) (vs : List Vv) (A3 : Option Addr) (n3 c3 : Nat) (pl : List Int) (w : World) (hb : Rd w 4 A2 n2 (valvesV vs)) (hn2 : n2 ≤ 1000000) (hfm2 : Fm A2 n2 c2) (hp3 : Rd w 1 A3 n3 (intsV pl)) (hn3 : n3 ≤ 1000000) :
    Calls Try.prog 146 #[.slice A2 n2 c2, .slice A3 n3 c3] w fun e w' => ∃ A' n' c', e = .returned (.slice A' n' c') ∧ w'.ownsRow w.heap.size 40 4 (.slice A' n' c') n' (valvesV (shutV vs pl)) ∧ Below w.heap.size w w' := by
 have hl2 := rd_valves_len hb
 have hl3 := rd_ints_len hp3
 go_enter Try.func146, Try.ntmps146
 refine F.begin 35 [(0, .slice A2 n2 c2), (1, .slice A3 n3 c3)] (fun U0 => ?_)
 refine wk fun K1 h1 => ?_
 refine Rq 1 ?_
 refine Fa (.slice none 0 0) ?_
 apply F.es
 apply h1
 refine wk fun K2 h2 => ?_
 refine W.region_plain (row := none) [(0, true), (1, false), (2, true), (3, false)] kk ?_
 have s1 := SG.self w none
 refine W.sn (fun b => .slice (some ⟨b, 0, none⟩) 0 0) #[] 40 s1 rfl kk rfl (fun _ => by kernel_rfl) (fun b2 w3 hb4 k5 x6 s7 => ?_)
 apply F.nx
 have lo8 : w.heap.size ≤ b2 := Nl ((Sb (Below.refl _ _) s1 nkk)).size (Nat.le_of_eq hb4)
 refine Fv (.slice A2 n2 c2) ?_
 have ho9 := own_empty (base := w.heap.size) (size := 4) x6 lo8
 replace ho9 : World.ownsRow _ _ _ _ _ _ (valvesV []) := ho9
 replace ho9 : World.ownsRow _ _ _ _ _ _ (valvesV []) := ho9
 refine W.sapR (e := 40) (size := 4) (base := w.heap.size) (v := .slice (some ⟨b2, 0, none⟩) 0 0) (A := A2) (m := n2) (c := c2) s7 rfl rfl rfl rfl kk kk kk ho9 (Rk hb (Sb (Below.refl _ _) s7 nkk)) hfm2 (valves_one _) (by omega) (by have := ((Sb (Below.refl _ _) s7 nkk)).size; omega) (.inr (fun kq e => by have := (s1).size; have := hb4; have e' := Option.some.inj e; simp at e'; omega)) (fun A10 cap11 w12 ho13 hg14 hat15 s16 => ?_)
 apply F.nx
 have ho13 := own_joinV ho13
 have fr17 : ∀ kq, (.slice A10 (0 + n2) cap11 : Value).ownBlock = some kq → w.heap.size ≤ kq := fun kq e => by
   have hs := (s7).size
   rcases hat15 with h | h
   · exact (show ∀ kq, Value.ownBlock _ = some kq → w.heap.size ≤ kq from (fun kq e => by have := (s1).size; have := hb4; have e' := Option.some.inj e; simp at e'; omega)) kq (h.symm.trans e)
   · have := Option.some.inj (h.symm.trans e); omega
 replace ho13 : World.ownsRow _ _ _ _ _ _ (valvesV vs) := ho13
 refine Fa (.slice A10 (0 + n2) cap11) ?_
 apply F.es
 have c18 := (Sb (Below.refl _ _) s16 nkk)
 apply h2
 refine wk fun K3 h3 => ?_
 refine wk fun K4 h4 => ?_
 refine Rq 3 ?_
 refine Fv (.slice A10 (0 + n2) cap11) ?_
 refine Fq (.int .i64 (((0 + n2) : Nat) : Int)) (r_len (A := A10) (n := (0 + n2)) (c := cap11) rfl ek kk) ?_
 refine Fv (.int .i64 0) ?_
 apply F.es
 apply h4
 refine wp_block ?_
 refine loopK (fun am0 aa0 wl0 => ∃ (i : Nat) (A0_5 : Option Addr) (n0_5 : Nat) (c0_5 : Nat) , Kn aa0 [(0, .slice A2 n2 c2), (1, .slice A3 n3 c3), (4, .slice none 0 0), (5, .slice A0_5 n0_5 c0_5), (11, .int .i64 (((0 + n2) : Nat) : Int)), (12, .int .i64 (i : Int))] 35 ∧ (am0 = n2 - i) ∧ (i ≤ n2) ∧ (wl0.ownsRow w.heap.size 40 4 (.slice A0_5 n0_5 c0_5) n0_5 (valvesV (mixV vs pl i))) ∧ (Below w.heap.size w wl0)) (n2 - 0) ?_ ?_
 ·exact ⟨0, A10, (0 + n2), cap11, Kn.of, rfl, (Nat.zero_le _), (by rw [mixV_zero]; exact ho13), c18⟩
 rintro am0 aa0 wl0 K5 h5 ⟨i, A0_5, n0_5, c0_5, ⟨U0, rfl⟩, rfl, hi, ho0_5, c19⟩
 have hml := mixV_len vs pl i
 have hln := rd_valves_len (own_rd ho0_5)
 refine wk fun K6 h6 => ?_
 refine Rq 1 ?_
 by_cases q20 : ((i : Int) : Int) < ((((0 + n2) : Nat) : Int) : Int)
 ·refine Fq (.bool true) (r_lss (m := (i : Int)) (n := (((0 + n2) : Nat) : Int)) rfl ek ek (dt q20)) ?_
  apply F.es
  apply h6
  refine wk fun K7 h7 => ?_
  refine wp_cond_true ek ?_
  apply wp_skip
  apply h7
  refine wk fun K8 h8 => ?_
  refine wp_block ?_
  refine wk fun K9 h9 => ?_
  refine Rq 2 ?_
  refine Fv (.int .i64 (i : Int)) ?_
  refine Fa (.int .i64 (i : Int)) ?_
  apply F.es
  apply h9
  refine W.region_plain (row := (Value.ownBlock (.slice A0_5 n0_5 c0_5))) [(0, false), (1, false), (2, false), (3, false), (4, false), (5, false), (6, true), (7, false), (8, false), (9, false), (10, false), (11, false), (12, false), (13, true), (14, true), (15, false), (16, false), (17, false), (18, true)] kk ?_
  have s21 := SG.self wl0 (Value.ownBlock (.slice A0_5 n0_5 c0_5))
  refine Fv (.slice A0_5 n0_5 c0_5) ?_
  refine Fv (.int .i64 (i : Int)) ?_
  refine Fv (.slice A0_5 n0_5 c0_5) ?_
  refine Fv (.int .i64 (i : Int)) ?_
  obtain ⟨x9, hx9⟩ := get_of (zs := vs) (k := i) (by omega)
  have hmx := mixV_at (plan := pl) hx9
  obtain ⟨g22, rfl, _, _⟩ := own_addr ho0_5 (by omega)
  refine Fq (.pointer (some ⟨g22, 0 + i * 4, none⟩)) (r_idx (n := n0_5) (c := c0_5) (k := i) (size := 4) rfl ek rfl kk kk (by omega)) ?_
  refine Fq (.pointer (some ⟨g22, 0 + i * 4 + 3, none⟩)) (r_field (k := 3) rfl ek kk) ?_
  refine W.slq (v := .bool x9.shut) s21 rfl (r_load rfl kk kk (eqS ((own_atV ho0_5 hmx).2.2.2))) kk rfl ?_
  apply F.nx
  refine Fv (.bool x9.shut) ?_
  rcases Bool.eq_false_or_eq_true x9.shut with q23 | q23
  ·rw [q23]
   refine Fs s21 ?_
   refine Fs s21 ?_
   refine Fs s21 ?_
   refine Fs s21 ?_
   refine Fs s21 ?_
   refine Fs s21 ?_
   refine Fs s21 ?_
   refine Fq (.bool true) (r_pick (b := true) rfl ek ek) ?_
   refine Fq (.pointer (some ⟨g22, 0 + i * 4, none⟩)) (r_idx (n := n0_5) (c := c0_5) (k := i) (size := 4) rfl ek rfl kk kk (by omega)) ?_
   refine Fq (.pointer (some ⟨g22, 0 + i * 4 + 3, none⟩)) (r_field (k := 3) rfl ek kk) ?_
   refine W.sst (base := w.heap.size) (e := 40) (size := 4) (n := n0_5) (c := c0_5) (j := 0 + i * 4 + 3) (u := .bool true) (news := [.bool true]) s21 rfl kk rfl rfl kk kk ho0_5 kk kk kk (by simp only [List.length_cons, List.length_nil]; omega) (.inl rfl) (fun w24 ho25 g26 s27 => ?_)
   have ho25 := own_setU hmx ho25
   apply F.es
   have c28 := (Sb c19 s27 (fun kq e => (World.ownsRow.lt ho0_5 kq e).1))
   apply h8
   refine Rq 2 ?_
   refine Fq (.int .i64 ((i + 1 : Nat) : Int)) (r_add (m := (i : Int)) (n := 1) (z := ((i + 1 : Nat) : Int)) rfl ek ek (by omega) (by omega)) ?_
   refine Fv (.int .i64 ((i + 1 : Nat) : Int)) ?_
   apply F.es
   exact h5 _ _ _ (by omega : (n2 - (i + 1)) < _) ⟨i + 1, (some ⟨g22, 0, none⟩), n0_5, c0_5, Kn.of, rfl, (by omega), (by rw [(mixV_next hx9).trans (by rw [shutX_true (.inl q23)])]; exact ho25), c28⟩
  rw [q23]
  refine Fv (.slice A3 n3 c3) ?_
  refine Fv (.slice (some ⟨g22, 0, none⟩) n0_5 c0_5) ?_
  refine Fv (.int .i64 (i : Int)) ?_
  refine Fq (.pointer (some ⟨g22, 0 + i * 4, none⟩)) (r_idx (n := n0_5) (c := c0_5) (k := i) (size := 4) rfl ek rfl kk kk (by omega)) ?_
  refine Fq (.pointer (some ⟨g22, 0 + i * 4, none⟩)) (r_field0 rfl ek kk) ?_
  refine W.slq (v := .int .i64 x9.id) s21 rfl (r_load rfl kk kk (eqS ((own_atV ho0_5 hmx).1))) kk rfl ?_
  apply F.nx
  refine Fc [.slice A3 n3 c3, .int .i64 x9.id] (slContains_any A3 n3 c3 pl x9.id _ (Rk hp3 (Sb c19 s21 (fun kq e => (World.ownsRow.lt ho0_5 kq e).1))) (by omega)) ?_
  rintro e w30 ⟨rfl, b29⟩
  have s31 := SG.of_below s21 b29
  refine ⟨_, rfl, s31, ?_⟩
  apply F.nx
  have ho32 := own_kept ho0_5 b29
  rcases Bool.eq_false_or_eq_true (pl.contains x9.id) with q33 | q33
  ·rw [q33]
   refine Fq (.bool true) (r_pick (b := false) rfl ek ek) ?_
   refine Fq (.pointer (some ⟨g22, 0 + i * 4, none⟩)) (r_idx (n := n0_5) (c := c0_5) (k := i) (size := 4) rfl ek rfl kk kk (by omega)) ?_
   refine Fq (.pointer (some ⟨g22, 0 + i * 4 + 3, none⟩)) (r_field (k := 3) rfl ek kk) ?_
   refine W.sst (base := w.heap.size) (e := 40) (size := 4) (n := n0_5) (c := c0_5) (j := 0 + i * 4 + 3) (u := .bool true) (news := [.bool true]) s31 rfl kk rfl rfl kk kk ho32 kk kk kk (by simp only [List.length_cons, List.length_nil]; omega) (.inl rfl) (fun w34 ho35 g36 s37 => ?_)
   have ho35 := own_setU hmx ho35
   apply F.es
   have c38 := (Sb c19 s37 (fun kq e => (World.ownsRow.lt ho0_5 kq e).1))
   apply h8
   refine Rq 2 ?_
   refine Fq (.int .i64 ((i + 1 : Nat) : Int)) (r_add (m := (i : Int)) (n := 1) (z := ((i + 1 : Nat) : Int)) rfl ek ek (by omega) (by omega)) ?_
   refine Fv (.int .i64 ((i + 1 : Nat) : Int)) ?_
   apply F.es
   exact h5 _ _ _ (by omega : (n2 - (i + 1)) < _) ⟨i + 1, (some ⟨g22, 0, none⟩), n0_5, c0_5, Kn.of, rfl, (by omega), (by rw [(mixV_next hx9).trans (by rw [shutX_true (.inr q33)])]; exact ho35), c38⟩
  rw [q33]
  refine Fq (.bool false) (r_pick (b := false) rfl ek ek) ?_
  refine Fq (.pointer (some ⟨g22, 0 + i * 4, none⟩)) (r_idx (n := n0_5) (c := c0_5) (k := i) (size := 4) rfl ek rfl kk kk (by omega)) ?_
  refine Fq (.pointer (some ⟨g22, 0 + i * 4 + 3, none⟩)) (r_field (k := 3) rfl ek kk) ?_
  refine W.sst (base := w.heap.size) (e := 40) (size := 4) (n := n0_5) (c := c0_5) (j := 0 + i * 4 + 3) (u := .bool false) (news := [.bool false]) s31 rfl kk rfl rfl kk kk ho32 kk kk kk (by simp only [List.length_cons, List.length_nil]; omega) (.inl rfl) (fun w39 ho40 g41 s42 => ?_)
  have ho40 := own_setU hmx ho40
  apply F.es
  have c43 := (Sb c19 s42 (fun kq e => (World.ownsRow.lt ho0_5 kq e).1))
  apply h8
  refine Rq 2 ?_
  refine Fq (.int .i64 ((i + 1 : Nat) : Int)) (r_add (m := (i : Int)) (n := 1) (z := ((i + 1 : Nat) : Int)) rfl ek ek (by omega) (by omega)) ?_
  refine Fv (.int .i64 ((i + 1 : Nat) : Int)) ?_
  apply F.es
  exact h5 _ _ _ (by omega : (n2 - (i + 1)) < _) ⟨i + 1, (some ⟨g22, 0, none⟩), n0_5, c0_5, Kn.of, rfl, (by omega), (by rw [(mixV_next hx9).trans (by rw [shutX_false q23 q33])]; exact ho40), c43⟩
 refine Fq (.bool false) (r_lss (m := (i : Int)) (n := (((0 + n2) : Nat) : Int)) rfl ek ek (df q20)) ?_
 apply F.es
 apply h6
 refine wk fun K10 h10 => ?_
 refine wp_cond_false ek ?_
 refine wp_exit ?_
 apply h3
 refine wk fun K11 h11 => ?_
 refine Rq 2 ?_
 refine Fv (.slice A0_5 n0_5 c0_5) ?_
 refine Fa (.slice A0_5 n0_5 c0_5) ?_
 apply F.es
 apply h11
 refine wp_ret ?_
 try simp only [Exit.then]
 refine ret1 (v := .slice A0_5 n0_5 c0_5) rfl kk ?_
 exact ⟨_, _, _, rfl, (by rw [← mixV_end (vs := vs) (plan := pl) (i := i) (by omega)]; exact ho0_5), c19⟩
set_option maxRecDepth 100000 in
set_option maxHeartbeats 8000000 in
theorem l5Shut_any (A2 : Option Addr) (n2 c2 : Nat) (vs : List Vv) (A3 : Option Addr) (n3 c3 : Nat) (pl : List Int) (w : World) (hb : Rd w 4 A2 n2 (valvesV vs)) (hn2 : n2 ≤ 1000000) (hfm2 : Fm A2 n2 c2) (hp3 : Rd w 1 A3 n3 (intsV pl)) (hn3 : n3 ≤ 1000000) :
    Calls Try.prog 149 #[.slice A2 n2 c2, .slice A3 n3 c3] w fun e w' => ∃ A' n' c', e = .returned (.slice A' n' c') ∧ w'.ownsRow w.heap.size 40 4 (.slice A' n' c') n' (valvesV (shutV vs pl)) ∧ Below w.heap.size w w' := by
 have hl2 := rd_valves_len hb
 have hl3 := rd_ints_len hp3
 go_enter Try.func149, Try.ntmps149
 refine F.begin 27 [(0, .slice A2 n2 c2), (1, .slice A3 n3 c3)] (fun U0 => ?_)
 refine wk fun K1 h1 => ?_
 refine Rq 1 ?_
 refine Fa (.slice none 0 0) ?_
 apply F.es
 apply h1
 refine wk fun K2 h2 => ?_
 refine W.region_plain (row := none) [(0, true), (1, false), (2, true), (3, false)] kk ?_
 have s1 := SG.self w none
 refine W.sn (fun b => .slice (some ⟨b, 0, none⟩) 0 0) #[] 40 s1 rfl kk rfl (fun _ => by kernel_rfl) (fun b2 w3 hb4 k5 x6 s7 => ?_)
 apply F.nx
 have lo8 : w.heap.size ≤ b2 := Nl ((Sb (Below.refl _ _) s1 nkk)).size (Nat.le_of_eq hb4)
 refine Fv (.slice A2 n2 c2) ?_
 have ho9 := own_empty (base := w.heap.size) (size := 4) x6 lo8
 replace ho9 : World.ownsRow _ _ _ _ _ _ (valvesV []) := ho9
 replace ho9 : World.ownsRow _ _ _ _ _ _ (valvesV []) := ho9
 refine W.sapR (e := 40) (size := 4) (base := w.heap.size) (v := .slice (some ⟨b2, 0, none⟩) 0 0) (A := A2) (m := n2) (c := c2) s7 rfl rfl rfl rfl kk kk kk ho9 (Rk hb (Sb (Below.refl _ _) s7 nkk)) hfm2 (valves_one _) (by omega) (by have := ((Sb (Below.refl _ _) s7 nkk)).size; omega) (.inr (fun kq e => by have := (s1).size; have := hb4; have e' := Option.some.inj e; simp at e'; omega)) (fun A10 cap11 w12 ho13 hg14 hat15 s16 => ?_)
 apply F.nx
 have ho13 := own_joinV ho13
 have fr17 : ∀ kq, (.slice A10 (0 + n2) cap11 : Value).ownBlock = some kq → w.heap.size ≤ kq := fun kq e => by
   have hs := (s7).size
   rcases hat15 with h | h
   · exact (show ∀ kq, Value.ownBlock _ = some kq → w.heap.size ≤ kq from (fun kq e => by have := (s1).size; have := hb4; have e' := Option.some.inj e; simp at e'; omega)) kq (h.symm.trans e)
   · have := Option.some.inj (h.symm.trans e); omega
 replace ho13 : World.ownsRow _ _ _ _ _ _ (valvesV vs) := ho13
 refine Fa (.slice A10 (0 + n2) cap11) ?_
 apply F.es
 have c18 := (Sb (Below.refl _ _) s16 nkk)
 apply h2
 refine wk fun K3 h3 => ?_
 refine wk fun K4 h4 => ?_
 refine Rq 1 ?_
 refine Fa (.int .i64 0) ?_
 apply F.es
 apply h4
 refine wp_block ?_
 refine loopK (fun am0 aa0 wl0 => ∃ (i : Nat) (A0_5 : Option Addr) (n0_5 : Nat) (c0_5 : Nat) , Kn aa0 [(0, .slice A2 n2 c2), (1, .slice A3 n3 c3), (4, .slice none 0 0), (5, .slice A0_5 n0_5 c0_5), (6, .int .i64 (i : Int))] 27 ∧ (am0 = n2 - i) ∧ (i ≤ n2) ∧ (wl0.ownsRow w.heap.size 40 4 (.slice A0_5 n0_5 c0_5) n0_5 (valvesV (mixV vs pl i))) ∧ (Below w.heap.size w wl0)) (n2 - 0) ?_ ?_
 ·exact ⟨0, A10, (0 + n2), cap11, Kn.of, rfl, (Nat.zero_le _), (by rw [mixV_zero]; exact ho13), c18⟩
 rintro am0 aa0 wl0 K5 h5 ⟨i, A0_5, n0_5, c0_5, ⟨U0, rfl⟩, rfl, hi, ho0_5, c19⟩
 have hml := mixV_len vs pl i
 have hln := rd_valves_len (own_rd ho0_5)
 refine wk fun K6 h6 => ?_
 refine wk fun K7 h7 => ?_
 refine Rq 4 ?_
 refine Fv (.int .i64 (i : Int)) ?_
 refine Fv (.slice A0_5 n0_5 c0_5) ?_
 refine Fq (.int .i64 (n0_5 : Int)) (r_len (A := A0_5) (n := n0_5) (c := c0_5) rfl ek kk) ?_
 by_cases q20 : ((i : Int) : Int) < ((n0_5 : Int) : Int)
 ·refine Fq (.bool true) (r_lss (m := (i : Int)) (n := (n0_5 : Int)) rfl ek ek (dt q20)) ?_
  apply F.es
  apply h7
  refine wp_cond_true ek ?_
  apply wp_skip
  apply h6
  refine wk fun K8 h8 => ?_
  refine wp_block ?_
  refine wk fun K9 h9 => ?_
  refine W.region_plain (row := none) [(0, false), (1, false), (2, false), (3, false), (4, false), (5, false), (6, true)] kk ?_
  have s21 := SG.self wl0 none
  refine Fv (.slice A3 n3 c3) ?_
  refine Fv (.slice A0_5 n0_5 c0_5) ?_
  refine Fv (.int .i64 (i : Int)) ?_
  obtain ⟨x9, hx9⟩ := get_of (zs := vs) (k := i) (by omega)
  have hmx := mixV_at (plan := pl) hx9
  obtain ⟨g22, rfl, _, _⟩ := own_addr ho0_5 (by omega)
  refine Fq (.pointer (some ⟨g22, 0 + i * 4, none⟩)) (r_idx (n := n0_5) (c := c0_5) (k := i) (size := 4) rfl ek rfl kk kk (by omega)) ?_
  refine Fq (.pointer (some ⟨g22, 0 + i * 4, none⟩)) (r_field0 rfl ek kk) ?_
  refine Fl (.int .i64 x9.id) (sgS ((own_atV ho0_5 hmx).1) (by simp)) ?_
  refine Fc [.slice A3 n3 c3, .int .i64 x9.id] (l1Has_any A3 n3 c3 pl x9.id _ (Rk hp3 (Sb c19 s21 nkk)) (by omega)) ?_
  rintro e w24 ⟨rfl, b23⟩
  have s25 := SG.of_below s21 b23
  refine ⟨_, rfl, s25, ?_⟩
  apply F.nx
  have ho26 := own_kept ho0_5 b23
  rcases Bool.eq_false_or_eq_true (pl.contains x9.id) with q27 | q27
  ·rw [q27]
   apply F.es
   have c28 := (Sb c19 s25 nkk)
   apply h9
   refine wp_cond_true ek ?_
   refine W.region_plain (row := none) [(0, false), (1, false), (2, true), (3, false)] kk ?_
   have s29 := SG.self w24 none
   refine Fv (.slice (some ⟨g22, 0, none⟩) n0_5 c0_5) ?_
   refine Fv (.int .i64 (i : Int)) ?_
   have z35 := ((Sb c28 s29 nkk)).size
   refine Fc [.slice (some ⟨g22, 0, none⟩) n0_5 c0_5, .int .i64 (i : Int), .bool true] (l4Turned_any (some ⟨g22, 0, none⟩) n0_5 c0_5 (mixV vs pl i) i x9 true _ (own_rd ho26) (by omega) (own_fm ho26) hmx) ?_
   rintro e w38 ⟨A30, n31, c32, rfl, ho33, b37⟩
   have s39 := SG.of_below s29 b37
   refine ⟨_, rfl, s39, ?_⟩
   apply F.nx
   have ho34 := own_base (base' := w.heap.size) ho33 z35
   refine Fa (.slice A30 n31 c32) ?_
   apply F.es
   have c41 := (Sb c28 s39 nkk)
   apply h8
   refine Rq 3 ?_
   refine Fv (.int .i64 (i : Int)) ?_
   refine Fq (.int .i64 ((i + 1 : Nat) : Int)) (r_add (m := (i : Int)) (n := 1) (z := ((i + 1 : Nat) : Int)) rfl ek ek (by omega) (by omega)) ?_
   refine Fa (.int .i64 ((i + 1 : Nat) : Int)) ?_
   apply F.es
   exact h5 _ _ _ (by omega : (n2 - (i + 1)) < _) ⟨i + 1, A30, n31, c32, Kn.of, rfl, (by omega), (by rw [(mixV_next hx9).trans (by rw [shutX_true (.inr q27)])]; exact ho34), c41⟩
  rw [q27]
  apply F.es
  have c42 := (Sb c19 s25 nkk)
  apply h9
  refine wp_cond_false ek ?_
  apply wp_skip
  apply h8
  refine Rq 3 ?_
  refine Fv (.int .i64 (i : Int)) ?_
  refine Fq (.int .i64 ((i + 1 : Nat) : Int)) (r_add (m := (i : Int)) (n := 1) (z := ((i + 1 : Nat) : Int)) rfl ek ek (by omega) (by omega)) ?_
  refine Fa (.int .i64 ((i + 1 : Nat) : Int)) ?_
  apply F.es
  exact h5 _ _ _ (by omega : (n2 - (i + 1)) < _) ⟨i + 1, (some ⟨g22, 0, none⟩), n0_5, c0_5, Kn.of, rfl, (by omega), (by rw [mixV_skip hx9 q27]; exact ho26), c42⟩
 refine Fq (.bool false) (r_lss (m := (i : Int)) (n := (n0_5 : Int)) rfl ek ek (df q20)) ?_
 apply F.es
 apply h7
 refine wp_cond_false ek ?_
 refine wp_exit ?_
 apply h3
 refine wk fun K10 h10 => ?_
 refine Rq 2 ?_
 refine Fv (.slice A0_5 n0_5 c0_5) ?_
 refine Fa (.slice A0_5 n0_5 c0_5) ?_
 apply F.es
 apply h10
 refine wp_ret ?_
 try simp only [Exit.then]
 refine ret1 (v := .slice A0_5 n0_5 c0_5) rfl kk ?_
 exact ⟨_, _, _, rfl, (by rw [← mixV_end (vs := vs) (plan := pl) (i := i) (by omega)]; exact ho0_5), c19⟩
set_option maxRecDepth 100000 in
set_option maxHeartbeats 8000000 in
theorem isolates_any (m : Int) (A : Option Addr) (n c : Nat) (ps : List Pp) (A2 : Option Addr) (n2 c2 : Nat) (vs : List Vv) (s id : Int) (A3 : Option Addr) (n3 c3 : Nat) (pl : List Int) (w : World) (ha : Rd w 4 A n (pipesV ps)) (hb : Rd w 4 A2 n2 (valvesV vs)) (hn : n ≤ 1048576) (hn2 : n2 ≤ 1048576) (hfm2 : Fm A2 n2 c2) (hv9 : GoodVal m ps vs) (hs : 1 ≤ s ∧ s ≤ m) (hfa : 0 ≤ findL ps id) (hp3 : Rd w 1 A3 n3 (intsV pl)) (hn3 : n3 ≤ 1000000) :
    Calls Try.prog 113 #[.agg #[.int .i64 m, .slice A n c], .slice A2 n2 c2, .int .i64 s, .int .i64 id, .slice A3 n3 c3] w fun e w' => e = .returned (.bool (cutB ps vs s id pl)) ∧ Below w.heap.size w w' := by
 have hl := rd_pipes_len ha
 have hl2 := rd_valves_len hb
 have hl3 := rd_ints_len hp3
 have hg := hv9.net
 have hgl := hg.lo
 have hgh := hg.hi
 have hp := hg.pipesIn
 have hlen10 := hg.len
 have hu := hv9.uniq
 have hvl := hv9.len
 have hfl := findL_lt ps id
 go_enter Try.func113, Try.ntmps113
 refine F.begin 25 [(0, .agg #[.int .i64 m, .slice A n c]), (1, .slice A2 n2 c2), (2, .int .i64 s), (3, .int .i64 id), (4, .slice A3 n3 c3)] (fun U0 => ?_)
 refine wk fun K1 h1 => ?_
 refine W.region_plain (row := none) [(0, true), (1, false)] kk ?_
 have s1 := SG.self w none
 refine W.sn (fun b => .pointer (some ⟨b, 0, none⟩)) #[.int .i64 m, .slice A n c] 26 s1 rfl kk rfl (fun _ => by kernel_rfl) (fun b2 w3 hb4 k5 x6 s7 => ?_)
 apply F.nx
 have lo8 : w.heap.size ≤ b2 := Nl ((Sb (Below.refl _ _) s1 nkk)).size (Nat.le_of_eq hb4)
 refine Fa (.bool false) ?_
 apply F.es
 have c9 := (Sb (Below.refl _ _) s7 nkk)
 apply h1
 refine wk fun K2 h2 => ?_
 refine W.region_sch (row := none) (Sch.of [(0, false), (1, false), (2, false), (4, false), (6, false), (7, false), (3, true), (5, true), (10, false), (8, true), (9, true), (11, false), (12, true), (13, false), (14, false)]) kk kk (fun _ d _ _ _ h => by cases d <;> exact h) kk (fun w10 e11 s12 => ?_)
 refine Fq (.agg #[.int .i64 m, .slice A n c]) (r_load2 rfl ek kk kk (sgS (blk_cell (j := 0) x6 kk) onn) (sgS (blk_cell (j := 1) x6 kk) onn)) ?_
 refine Fv (.slice A2 n2 c2) ?_
 refine Fv (.slice A3 n3 c3) ?_
 refine Fv (.int .i64 s) ?_
 refine Fq (.agg #[.int .i64 m, .slice A n c]) (r_load2 rfl ek kk kk (sgS (blk_cell (j := 0) x6 kk) onn) (sgS (blk_cell (j := 1) x6 kk) onn)) ?_
 refine Fv (.int .i64 id) ?_
 refine Fc [.slice A2 n2 c2, .slice A3 n3 c3] (shutToo_any A2 n2 c2 vs A3 n3 c3 pl _ (Rk hb (Sb c9 s12 nkk)) (by omega) hfm2 (Rk hp3 (Sb c9 s12 nkk)) (by omega)) ?_
 rintro e w22 ⟨A13, n14, c15, rfl, ho16, b21⟩
 have s23 := SG.of_below s12 b21
 refine ⟨_, rfl, s23, ?_⟩
 apply F.nx
 have rd17 := own_rd ho16
 have hl18 := rd_valves_len rd17
 have := shutV_len vs pl
 refine Fc [.agg #[.int .i64 m, .slice A n c], .slice A13 n14 c15, .int .i64 s] (watered_any m A n c ps A13 n14 c15 (shutV vs pl) (s) (s).toNat _ (Rk ha (Sb c9 s23 nkk)) rd17 (by omega) (by omega) hp (by omega) (by omega) (uniqV_shut hu pl) (by omega) (by omega)) ?_
 rintro e w31 ⟨pb25, rfl, lo29, rd26, b30⟩
 have s32 := SG.of_below s23 b30
 refine ⟨_, rfl, s32, ?_⟩
 apply F.nx
 have hl27 := rd_bools_len rd26
 rw [wetL_len] at hl27
 have hl27 : (wetL (linked ps (openQ (shutV vs pl) true)) (s)).length = 19 := wetL_len _ _
 refine Fq (.pointer (some ⟨pb25, 0, none⟩)) (r_nilCheck rfl ek) ?_
 refine Fc [.agg #[.int .i64 m, .slice A n c], .int .i64 id] (pipeIndex_any m A n c ps id _ (Rk ha (Sb c9 s32 nkk)) (by omega)) ?_
 rintro e w36 ⟨rfl, b35⟩
 have s37 := SG.of_below s32 b35
 refine ⟨_, rfl, s37, ?_⟩
 apply F.nx
 have rd39 := Rk rd26 b35
 refine Fc [.int .i64 (findL ps id)] (element_any (findL ps id) _ (by omega)) ?_
 rintro e w' ⟨rfl, rfl⟩
 refine ⟨_, rfl, s37, ?_⟩
 apply F.nx
 obtain ⟨x42, hx43⟩ := get_of (zs := (wetL (linked ps (openQ (shutV vs pl) true)) (s))) (k := (9 + findL ps id).toNat) (by have := hl27; omega)
 obtain ⟨hb44, hc45⟩ := Rd.elBool rd39 hx43
 refine Fq (.pointer (some ⟨pb25, (9 + findL ps id).toNat, none⟩)) (r_idxA (len := 19) (k := (9 + findL ps id).toNat) rfl ek (evk (z := 9 + (findL ps id)) kk (by omega)) kk (by omega)) ?_
 refine W.slq (v := .bool x42) s37 rfl (r_load rfl kk kk (eqS hc45)) kk rfl ?_
 apply F.nx
 refine Fq (.bool (!x42)) (r_not (b := x42) rfl ek rfl) ?_
 refine Fa (.bool (!x42)) ?_
 apply F.es
 have c46 := (Sb c9 s37 nkk)
 apply h2
 refine wp_ret ?_
 try simp only [Exit.then]
 refine ret1 (v := .bool (!x42)) rfl kk ?_
 exact ⟨by unfold cutB; rw [← wet_eqI (b := 9 + findL ps id) hx43 (by omega)], c46⟩
set_option maxRecDepth 100000 in
set_option maxHeartbeats 8000000 in
theorem l5Cut_any (m : Int) (A : Option Addr) (n c : Nat) (ps : List Pp) (A2 : Option Addr) (n2 c2 : Nat) (vs : List Vv) (s id : Int) (A3 : Option Addr) (n3 c3 : Nat) (pl : List Int) (w : World) (ha : Rd w 4 A n (pipesV ps)) (hb : Rd w 4 A2 n2 (valvesV vs)) (hn : n ≤ 1048576) (hn2 : n2 ≤ 1048576) (hfm2 : Fm A2 n2 c2) (hv9 : GoodVal m ps vs) (hs : 1 ≤ s ∧ s ≤ m) (hfa : 0 ≤ findL ps id) (hp3 : Rd w 1 A3 n3 (intsV pl)) (hn3 : n3 ≤ 1000000) :
    Calls Try.prog 118 #[.agg #[.int .i64 m, .slice A n c], .slice A2 n2 c2, .int .i64 s, .int .i64 id, .slice A3 n3 c3] w fun e w' => e = .returned (.bool (cutB ps vs s id pl)) ∧ Below w.heap.size w w' := by
 have hl := rd_pipes_len ha
 have hl2 := rd_valves_len hb
 have hl3 := rd_ints_len hp3
 have hg := hv9.net
 have hgl := hg.lo
 have hgh := hg.hi
 have hp := hg.pipesIn
 have hlen10 := hg.len
 have hu := hv9.uniq
 have hvl := hv9.len
 have hfl := findL_lt ps id
 go_enter Try.func118, Try.ntmps118
 refine F.begin 27 [(0, .agg #[.int .i64 m, .slice A n c]), (1, .slice A2 n2 c2), (2, .int .i64 s), (3, .int .i64 id), (4, .slice A3 n3 c3)] (fun U0 => ?_)
 refine wk fun K1 h1 => ?_
 refine W.region_plain (row := none) [(0, true), (1, false)] kk ?_
 have s1 := SG.self w none
 refine W.sn (fun b => .pointer (some ⟨b, 0, none⟩)) #[.int .i64 m, .slice A n c] 26 s1 rfl kk rfl (fun _ => by kernel_rfl) (fun b2 w3 hb4 k5 x6 s7 => ?_)
 apply F.nx
 have lo8 : w.heap.size ≤ b2 := Nl ((Sb (Below.refl _ _) s1 nkk)).size (Nat.le_of_eq hb4)
 refine Fa (.bool false) ?_
 apply F.es
 have c9 := (Sb (Below.refl _ _) s7 nkk)
 apply h1
 refine wk fun K2 h2 => ?_
 refine W.region_sch (row := none) (Sch.of [(0, false), (1, false), (2, false), (4, false), (3, true), (5, true), (6, false), (7, false), (8, false), (9, false), (10, false)]) kk kk (fun _ d _ _ _ h => by cases d <;> exact h) kk (fun w10 e11 s12 => ?_)
 refine Fq (.agg #[.int .i64 m, .slice A n c]) (r_load2 rfl ek kk kk (sgS (blk_cell (j := 0) x6 kk) onn) (sgS (blk_cell (j := 1) x6 kk) onn)) ?_
 refine Fv (.slice A2 n2 c2) ?_
 refine Fv (.slice A3 n3 c3) ?_
 refine Fv (.int .i64 s) ?_
 refine Fc [.slice A2 n2 c2, .slice A3 n3 c3] (l5Shut_any A2 n2 c2 vs A3 n3 c3 pl _ (Rk hb (Sb c9 s12 nkk)) (by omega) hfm2 (Rk hp3 (Sb c9 s12 nkk)) (by omega)) ?_
 rintro e w22 ⟨A13, n14, c15, rfl, ho16, b21⟩
 have s23 := SG.of_below s12 b21
 refine ⟨_, rfl, s23, ?_⟩
 apply F.nx
 have rd17 := own_rd ho16
 have hl18 := rd_valves_len rd17
 have := shutV_len vs pl
 refine Fc [.agg #[.int .i64 m, .slice A n c], .slice A13 n14 c15, .int .i64 s] (l4Dry_any m A n c ps A13 n14 c15 (shutV vs pl) s _ (Rk ha (Sb c9 s23 nkk)) rd17 (by omega) (by omega) hp (by omega) (by omega) (by omega)) ?_
 rintro e w40 ⟨A25, n26, c27, A28, n29, c30, rfl, rd31, fm32, rd33, fm34, b39⟩
 have s41 := SG.of_below s23 b39
 refine ⟨_, rfl, s41, ?_⟩
 apply F.nx
 have hl37 := rd_ints_len rd31
 have hl38 := rd_ints_len rd33
 have := nodesL_len (linked ps (openQ (shutV vs pl) true)) m.toNat s false
 have := idxL_len (linked ps (openQ (shutV vs pl) true)) ps.length s false
 refine Fv (.tuple #[.slice A25 n26 c27, .slice A28 n29 c30]) ?_
 refine Fq (.slice A25 n26 c27) (r_extract (vs := #[.slice A25 n26 c27, .slice A28 n29 c30]) rfl ek kk) ?_
 refine Fq (.slice A28 n29 c30) (r_extract (vs := #[.slice A25 n26 c27, .slice A28 n29 c30]) rfl ek kk) ?_
 refine Fa (.slice A25 n26 c27) ?_
 refine Fa (.slice A28 n29 c30) ?_
 apply F.es
 have x6 := Sk s41 x6 onn
 have c43 := (Sb c9 s41 nkk)
 apply h2
 refine wk fun K3 h3 => ?_
 refine W.region_plain (row := none) [(0, false), (1, false), (2, false), (3, true), (4, true), (5, false)] kk ?_
 have s44 := SG.self w40 none
 refine Fv (.slice A28 n29 c30) ?_
 refine Fq (.agg #[.int .i64 m, .slice A n c]) (r_load2 rfl ek kk kk (sgS (blk_cell (j := 0) x6 kk) onn) (sgS (blk_cell (j := 1) x6 kk) onn)) ?_
 refine Fv (.int .i64 id) ?_
 refine Fc [.agg #[.int .i64 m, .slice A n c], .int .i64 id] (l2Find_any m A n c ps id _ (Rk ha (Sb c43 s44 nkk)) (by omega)) ?_
 rintro e w46 ⟨rfl, b45⟩
 have s47 := SG.of_below s44 b45
 refine ⟨_, rfl, s47, ?_⟩
 apply F.nx
 refine Fc [.slice A28 n29 c30, .int .i64 (findL ps id)] (l1Has_any A28 n29 c30 (idxL (linked ps (openQ (shutV vs pl) true)) ps.length s false) (findL ps id) _ (Rk rd33 (SG.below s47)) (by omega)) ?_
 rintro e w49 ⟨rfl, b48⟩
 have s50 := SG.of_below s47 b48
 refine ⟨_, rfl, s50, ?_⟩
 apply F.nx
 refine Fa (.bool ((idxL (linked ps (openQ (shutV vs pl) true)) ps.length s false).contains (findL ps id))) ?_
 apply F.es
 have c51 := (Sb c43 s50 nkk)
 apply h3
 refine wp_ret ?_
 try simp only [Exit.then]
 refine ret1 (v := .bool ((idxL (linked ps (openQ (shutV vs pl) true)) ps.length s false).contains (findL ps id))) rfl kk ?_
 exact ⟨by unfold cutB; rw [idxL_hasF (by omega)], c51⟩
set_option maxRecDepth 100000 in
set_option maxHeartbeats 8000000 in
theorem canBurst_any (m : Int) (A : Option Addr) (n c : Nat) (ps : List Pp) (A2 : Option Addr) (n2 c2 : Nat) (vs : List Vv) (s id : Int) (w : World) (ha : Rd w 4 A n (pipesV ps)) (hb : Rd w 4 A2 n2 (valvesV vs)) (hn : n ≤ 1048576) (hn2 : n2 ≤ 1048576) (hfm2 : Fm A2 n2 c2) :
    Calls Try.prog 103 #[.agg #[.int .i64 m, .slice A n c], .slice A2 n2 c2, .int .i64 s, .int .i64 id] w fun e w' => e = .returned (.bool (canB m ps vs s id)) ∧ Below w.heap.size w w' := by
 have hl := rd_pipes_len ha
 have hl2 := rd_valves_len hb
 go_enter Try.func103, Try.ntmps103
 refine F.begin 23 [(0, .agg #[.int .i64 m, .slice A n c]), (1, .slice A2 n2 c2), (2, .int .i64 s), (3, .int .i64 id)] (fun U0 => ?_)
 refine wk fun K1 h1 => ?_
 refine W.region_plain (row := none) [(0, true), (1, false)] kk ?_
 have s1 := SG.self w none
 refine W.sn (fun b => .pointer (some ⟨b, 0, none⟩)) #[.int .i64 m, .slice A n c] 26 s1 rfl kk rfl (fun _ => by kernel_rfl) (fun b2 w3 hb4 k5 x6 s7 => ?_)
 apply F.nx
 have lo8 : w.heap.size ≤ b2 := Nl ((Sb (Below.refl _ _) s1 nkk)).size (Nat.le_of_eq hb4)
 refine Fa (.bool false) ?_
 apply F.es
 have c9 := (Sb (Below.refl _ _) s7 nkk)
 apply h1
 refine wk fun K2 h2 => ?_
 refine W.region_plain (row := none) [(0, false), (1, false), (2, true), (3, false), (4, false), (5, false), (6, true), (7, false), (8, false), (9, false), (10, false), (11, true), (12, false), (13, false), (14, false)] kk ?_
 have s10 := SG.self w3 none
 refine Fq (.agg #[.int .i64 m, .slice A n c]) (r_load2 rfl ek kk kk (sgS (blk_cell (j := 0) x6 kk) onn) (sgS (blk_cell (j := 1) x6 kk) onn)) ?_
 refine Fv (.slice A2 n2 c2) ?_
 refine Fc [.agg #[.int .i64 m, .slice A n c], .slice A2 n2 c2] (IsValidValves_any m A n c ps A2 n2 c2 vs _ (Rk ha (Sb c9 s10 nkk)) (Rk hb (Sb c9 s10 nkk)) (by omega) (by omega) hfm2) ?_
 rintro e w12 ⟨rfl, b11⟩
 have s13 := SG.of_below s10 b11
 refine ⟨_, rfl, s13, ?_⟩
 apply F.nx
 rcases Bool.eq_false_or_eq_true (goodV m ps vs) with q14 | q14
 ·rw [q14]
  have hv9 := goodV_of q14
  have hg := hv9.net
  have hgl := hg.lo
  have hgh := hg.hi
  have hp := hg.pipesIn
  have hlen10 := hg.len
  have hu := hv9.uniq
  have hvl := hv9.len
  have hfl := findL_lt ps id
  refine Fv (.bool true) ?_
  refine Fq (.agg #[.int .i64 m, .slice A n c]) (r_load2 rfl ek kk kk (sgS (blk_cell (j := 0) x6 kk) onn) (sgS (blk_cell (j := 1) x6 kk) onn)) ?_
  refine Fv (.int .i64 s) ?_
  refine Fc [.agg #[.int .i64 m, .slice A n c], .int .i64 s] (has_any m A n c ps s _) ?_
  rintro e w16 ⟨rfl, b15⟩
  have s17 := SG.of_below s13 b15
  refine ⟨_, rfl, s17, ?_⟩
  apply F.nx
  rcases Bool.eq_false_or_eq_true (inB s 1 m) with q18 | q18
  ·rw [q18]
   refine Fq (.bool true) (r_pick (b := true) rfl ek ek) ?_
   refine Fv (.bool true) ?_
   refine Fq (.agg #[.int .i64 m, .slice A n c]) (r_load2 rfl ek kk kk (sgS (blk_cell (j := 0) x6 kk) onn) (sgS (blk_cell (j := 1) x6 kk) onn)) ?_
   refine Fv (.int .i64 id) ?_
   refine Fc [.agg #[.int .i64 m, .slice A n c], .int .i64 id] (pipeIndex_any m A n c ps id _ (Rk ha (Sb c9 s17 nkk)) (by omega)) ?_
   rintro e w20 ⟨rfl, b19⟩
   have s21 := SG.of_below s17 b19
   refine ⟨_, rfl, s21, ?_⟩
   apply F.nx
   by_cases q22 : (findL ps id : Int) ≥ (0 : Int)
   ·refine Fq (.bool true) (r_geq (m := findL ps id) (n := 0) rfl ek ek (dt q22)) ?_
    refine Fq (.bool true) (r_pick (b := true) rfl ek ek) ?_
    refine Fa (.bool true) ?_
    apply F.es
    have c23 := (Sb c9 s21 nkk)
    apply h2
    refine wp_ret ?_
    try simp only [Exit.then]
    refine ret1 (v := .bool true) rfl kk ?_
    exact ⟨by unfold canB; rw [q14, q18, decide_eq_true q22]; try rfl, c23⟩
   refine Fq (.bool false) (r_geq (m := findL ps id) (n := 0) rfl ek ek (df q22)) ?_
   refine Fq (.bool false) (r_pick (b := true) rfl ek ek) ?_
   refine Fa (.bool false) ?_
   apply F.es
   have c24 := (Sb c9 s21 nkk)
   apply h2
   refine wp_ret ?_
   try simp only [Exit.then]
   refine ret1 (v := .bool false) rfl kk ?_
   exact ⟨by unfold canB; rw [decide_eq_false q22, Bool.and_false], c24⟩
  rw [q18]
  refine Fq (.bool false) (r_pick (b := true) rfl ek ek) ?_
  refine Fv (.bool false) ?_
  refine Fs s17 ?_
  refine Fs s17 ?_
  refine Fs s17 ?_
  refine Fs s17 ?_
  refine Fq (.bool false) (r_pick (b := false) rfl ek ek) ?_
  refine Fa (.bool false) ?_
  apply F.es
  have c25 := (Sb c9 s17 nkk)
  apply h2
  refine wp_ret ?_
  try simp only [Exit.then]
  refine ret1 (v := .bool false) rfl kk ?_
  exact ⟨by unfold canB; rw [q18, Bool.and_false, Bool.false_and], c25⟩
 rw [q14]
 refine Fv (.bool false) ?_
 refine Fs s13 ?_
 refine Fs s13 ?_
 refine Fs s13 ?_
 refine Fq (.bool false) (r_pick (b := false) rfl ek ek) ?_
 refine Fv (.bool false) ?_
 refine Fs s13 ?_
 refine Fs s13 ?_
 refine Fs s13 ?_
 refine Fs s13 ?_
 refine Fq (.bool false) (r_pick (b := false) rfl ek ek) ?_
 refine Fa (.bool false) ?_
 apply F.es
 have c26 := (Sb c9 s13 nkk)
 apply h2
 refine wp_ret ?_
 try simp only [Exit.then]
 refine ret1 (v := .bool false) rfl kk ?_
 exact ⟨by unfold canB; rw [q14]; try rfl, c26⟩
set_option maxRecDepth 100000 in
set_option maxHeartbeats 8000000 in
theorem l5Asked_any (m : Int) (A : Option Addr) (n c : Nat) (ps : List Pp) (A2 : Option Addr) (n2 c2 : Nat) (vs : List Vv) (s id : Int) (w : World) (ha : Rd w 4 A n (pipesV ps)) (hb : Rd w 4 A2 n2 (valvesV vs)) (hn : n ≤ 1048576) (hn2 : n2 ≤ 1048576) (hfm2 : Fm A2 n2 c2) :
    Calls Try.prog 99 #[.agg #[.int .i64 m, .slice A n c], .slice A2 n2 c2, .int .i64 s, .int .i64 id] w fun e w' => e = .returned (.bool (canB m ps vs s id)) ∧ Below w.heap.size w w' := by
 have hl := rd_pipes_len ha
 have hl2 := rd_valves_len hb
 go_enter Try.func99, Try.ntmps99
 refine F.begin 23 [(0, .agg #[.int .i64 m, .slice A n c]), (1, .slice A2 n2 c2), (2, .int .i64 s), (3, .int .i64 id)] (fun U0 => ?_)
 refine wk fun K1 h1 => ?_
 refine W.region_plain (row := none) [(0, true), (1, false)] kk ?_
 have s1 := SG.self w none
 refine W.sn (fun b => .pointer (some ⟨b, 0, none⟩)) #[.int .i64 m, .slice A n c] 26 s1 rfl kk rfl (fun _ => by kernel_rfl) (fun b2 w3 hb4 k5 x6 s7 => ?_)
 apply F.nx
 have lo8 : w.heap.size ≤ b2 := Nl ((Sb (Below.refl _ _) s1 nkk)).size (Nat.le_of_eq hb4)
 refine Fa (.bool false) ?_
 apply F.es
 have c9 := (Sb (Below.refl _ _) s7 nkk)
 apply h1
 refine wk fun K2 h2 => ?_
 refine W.region_plain (row := none) [(0, false), (1, false), (2, true), (3, false), (4, false), (5, false), (6, true), (7, false), (8, false), (9, false), (10, false), (11, true), (12, false), (13, false), (14, false)] kk ?_
 have s10 := SG.self w3 none
 refine Fq (.agg #[.int .i64 m, .slice A n c]) (r_load2 rfl ek kk kk (sgS (blk_cell (j := 0) x6 kk) onn) (sgS (blk_cell (j := 1) x6 kk) onn)) ?_
 refine Fv (.slice A2 n2 c2) ?_
 refine Fc [.agg #[.int .i64 m, .slice A n c], .slice A2 n2 c2] (l4Good_any m A n c ps A2 n2 c2 vs _ (Rk ha (Sb c9 s10 nkk)) (Rk hb (Sb c9 s10 nkk)) (by omega) (by omega)) ?_
 rintro e w12 ⟨rfl, b11⟩
 have s13 := SG.of_below s10 b11
 refine ⟨_, rfl, s13, ?_⟩
 apply F.nx
 rcases Bool.eq_false_or_eq_true (goodV m ps vs) with q14 | q14
 ·rw [q14]
  have hv9 := goodV_of q14
  have hg := hv9.net
  have hgl := hg.lo
  have hgh := hg.hi
  have hp := hg.pipesIn
  have hlen10 := hg.len
  have hu := hv9.uniq
  have hvl := hv9.len
  have hfl := findL_lt ps id
  refine Fv (.bool true) ?_
  refine Fq (.agg #[.int .i64 m, .slice A n c]) (r_load2 rfl ek kk kk (sgS (blk_cell (j := 0) x6 kk) onn) (sgS (blk_cell (j := 1) x6 kk) onn)) ?_
  refine Fv (.int .i64 s) ?_
  refine Fc [.agg #[.int .i64 m, .slice A n c], .int .i64 s] (l2Node_any m A n c ps s _ (Rk ha (Sb c9 s13 nkk)) (by omega)) ?_
  rintro e w16 ⟨rfl, b15⟩
  have s17 := SG.of_below s13 b15
  refine ⟨_, rfl, s17, ?_⟩
  apply F.nx
  rcases Bool.eq_false_or_eq_true (goodN m ps && inB s 1 m) with q18 | q18
  ·rw [q18]
   have q19 : inB s 1 m = true := (Bool.and_eq_true_iff.1 q18).2
   refine Fq (.bool true) (r_pick (b := true) rfl ek ek) ?_
   refine Fv (.bool true) ?_
   refine Fq (.agg #[.int .i64 m, .slice A n c]) (r_load2 rfl ek kk kk (sgS (blk_cell (j := 0) x6 kk) onn) (sgS (blk_cell (j := 1) x6 kk) onn)) ?_
   refine Fv (.int .i64 id) ?_
   refine Fc [.agg #[.int .i64 m, .slice A n c], .int .i64 id] (l2Find_any m A n c ps id _ (Rk ha (Sb c9 s17 nkk)) (by omega)) ?_
   rintro e w21 ⟨rfl, b20⟩
   have s22 := SG.of_below s17 b20
   refine ⟨_, rfl, s22, ?_⟩
   apply F.nx
   by_cases q23 : (findL ps id : Int) ≥ (0 : Int)
   ·refine Fq (.bool true) (r_geq (m := findL ps id) (n := 0) rfl ek ek (dt q23)) ?_
    refine Fq (.bool true) (r_pick (b := true) rfl ek ek) ?_
    refine Fa (.bool true) ?_
    apply F.es
    have c24 := (Sb c9 s22 nkk)
    apply h2
    refine wp_ret ?_
    try simp only [Exit.then]
    refine ret1 (v := .bool true) rfl kk ?_
    exact ⟨by unfold canB; rw [q14, q19, decide_eq_true q23]; try rfl, c24⟩
   refine Fq (.bool false) (r_geq (m := findL ps id) (n := 0) rfl ek ek (df q23)) ?_
   refine Fq (.bool false) (r_pick (b := true) rfl ek ek) ?_
   refine Fa (.bool false) ?_
   apply F.es
   have c25 := (Sb c9 s22 nkk)
   apply h2
   refine wp_ret ?_
   try simp only [Exit.then]
   refine ret1 (v := .bool false) rfl kk ?_
   exact ⟨by unfold canB; rw [decide_eq_false q23, Bool.and_false], c25⟩
  rw [q18]
  have q26 : inB s 1 m = false := by have h9 := q18; rw [hv9.good, Bool.true_and] at h9; exact h9
  refine Fq (.bool false) (r_pick (b := true) rfl ek ek) ?_
  refine Fv (.bool false) ?_
  refine Fs s17 ?_
  refine Fs s17 ?_
  refine Fs s17 ?_
  refine Fs s17 ?_
  refine Fq (.bool false) (r_pick (b := false) rfl ek ek) ?_
  refine Fa (.bool false) ?_
  apply F.es
  have c27 := (Sb c9 s17 nkk)
  apply h2
  refine wp_ret ?_
  try simp only [Exit.then]
  refine ret1 (v := .bool false) rfl kk ?_
  exact ⟨by unfold canB; rw [q26, Bool.and_false, Bool.false_and], c27⟩
 rw [q14]
 refine Fv (.bool false) ?_
 refine Fs s13 ?_
 refine Fs s13 ?_
 refine Fs s13 ?_
 refine Fq (.bool false) (r_pick (b := false) rfl ek ek) ?_
 refine Fv (.bool false) ?_
 refine Fs s13 ?_
 refine Fs s13 ?_
 refine Fs s13 ?_
 refine Fs s13 ?_
 refine Fq (.bool false) (r_pick (b := false) rfl ek ek) ?_
 refine Fa (.bool false) ?_
 apply F.es
 have c28 := (Sb c9 s13 nkk)
 apply h2
 refine wp_ret ?_
 try simp only [Exit.then]
 refine ret1 (v := .bool false) rfl kk ?_
 exact ⟨by unfold canB; rw [q14]; try rfl, c28⟩
set_option maxRecDepth 100000 in
set_option maxHeartbeats 8000000 in
theorem l5Open_any (A2 : Option Addr) (n2 c2 : Nat) (vs : List Vv) (w : World) (hb : Rd w 4 A2 n2 (valvesV vs)) (hn2 : n2 ≤ 1000000) :
    Calls Try.prog 115 #[.slice A2 n2 c2] w fun e w' => ∃ A' n' c', e = .returned (.slice A' n' c') ∧ w'.ownsRow w.heap.size 3 1 (.slice A' n' c') n' (intsV (openIds vs)) ∧ Below w.heap.size w w' := by
 have hl2 := rd_valves_len hb
 go_enter Try.func115, Try.ntmps115
 refine F.begin 27 [(0, .slice A2 n2 c2)] (fun U0 => ?_)
 refine wk fun K1 h1 => ?_
 refine Rq 1 ?_
 refine Fa (.slice none 0 0) ?_
 apply F.es
 apply h1
 refine wk fun K2 h2 => ?_
 refine W.region_plain (row := none) [(0, true), (1, false)] kk ?_
 have s1 := SG.self w none
 refine W.sn (fun b => .slice (some ⟨b, 0, none⟩) 0 0) #[] 3 s1 rfl kk rfl (fun _ => by kernel_rfl) (fun b2 w3 hb4 k5 x6 s7 => ?_)
 apply F.nx
 have lo8 : w.heap.size ≤ b2 := Nl ((Sb (Below.refl _ _) s1 nkk)).size (Nat.le_of_eq hb4)
 refine Fa (.slice (some ⟨b2, 0, none⟩) 0 0) ?_
 apply F.es
 have c9 := (Sb (Below.refl _ _) s7 nkk)
 apply h2
 refine wk fun K3 h3 => ?_
 refine wk fun K4 h4 => ?_
 refine Rq 1 ?_
 refine Fa (.int .i64 0) ?_
 apply F.es
 apply h4
 refine wp_block ?_
 have ho10 := own_empty (base := w.heap.size) (size := 1) x6 lo8
 replace ho10 : World.ownsRow _ _ _ _ _ _ (intsV []) := ho10
 refine loopK (fun am0 aa0 wl0 => ∃ (i : Nat) (A0_3 : Option Addr) (n0_3 : Nat) (c0_3 : Nat) , Kn aa0 [(0, .slice A2 n2 c2), (2, .slice none 0 0), (3, .slice A0_3 n0_3 c0_3), (4, .int .i64 (i : Int))] 27 ∧ (am0 = n2 - i) ∧ (i ≤ n2) ∧ (n0_3 ≤ i) ∧ (wl0.ownsRow w.heap.size 3 1 (.slice A0_3 n0_3 c0_3) n0_3 (intsV (openIds (vs.take i)))) ∧ (Below w.heap.size w wl0)) (n2 - 0) ?_ ?_
 ·exact ⟨0, (some ⟨b2, 0, none⟩), 0, 0, Kn.of, rfl, (Nat.zero_le _), (Nat.zero_le _), ho10, c9⟩
 rintro am0 aa0 wl0 K5 h5 ⟨i, A0_3, n0_3, c0_3, ⟨U0, rfl⟩, rfl, hi, hb3, ho0_3, c11⟩
 refine wk fun K6 h6 => ?_
 refine wk fun K7 h7 => ?_
 refine Rq 4 ?_
 refine Fv (.int .i64 (i : Int)) ?_
 refine Fv (.slice A2 n2 c2) ?_
 refine Fq (.int .i64 (n2 : Int)) (r_len (A := A2) (n := n2) (c := c2) rfl ek kk) ?_
 by_cases q12 : ((i : Int) : Int) < ((n2 : Int) : Int)
 ·refine Fq (.bool true) (r_lss (m := (i : Int)) (n := (n2 : Int)) rfl ek ek (dt q12)) ?_
  apply F.es
  apply h7
  refine wp_cond_true ek ?_
  apply wp_skip
  apply h6
  refine wk fun K8 h8 => ?_
  refine wp_block ?_
  refine wk fun K9 h9 => ?_
  refine Rq 6 ?_
  refine Fv (.slice A2 n2 c2) ?_
  refine Fv (.int .i64 (i : Int)) ?_
  obtain ⟨x13, hx14⟩ := get_of (zs := vs) (k := i) (by have := hl2; omega)
  obtain ⟨b15, o16, hA17, hb18, hc19, hc20, hc21, hc22⟩ := Rd.elValve hb hx14
  refine Fq (.pointer (some ⟨b15, o16 + i * 4, none⟩)) (r_idx (n := n2) (c := c2) (k := i) rfl ek hA17 kk kk (by have := hl2; omega)) ?_
  refine Fq (.pointer (some ⟨b15, o16 + i * 4 + 3, none⟩)) (r_field (k := 3) rfl ek kk) ?_
  refine Fl (.bool x13.shut) (eqS (later c11 hc22)) ?_
  refine Fq (.bool (!x13.shut)) (r_not (b := x13.shut) rfl ek rfl) ?_
  apply F.es
  apply h9
  rcases Bool.eq_false_or_eq_true (!x13.shut) with q23 | q23
  ·rw [q23]
   refine wp_cond_true ek ?_
   refine W.region_plain (row := (Value.ownBlock (.slice A0_3 n0_3 c0_3))) [(0, false), (1, false), (2, false), (3, false), (4, false), (5, false), (6, true), (7, true), (8, false)] kk ?_
   have s24 := SG.self wl0 (Value.ownBlock (.slice A0_3 n0_3 c0_3))
   refine Fv (.slice A0_3 n0_3 c0_3) ?_
   refine Fv (.slice A2 n2 c2) ?_
   refine Fv (.int .i64 (i : Int)) ?_
   refine Fq (.pointer (some ⟨b15, o16 + i * 4, none⟩)) (r_idx (n := n2) (c := c2) (k := i) rfl ek hA17 kk kk (by have := hl2; omega)) ?_
   refine Fq (.pointer (some ⟨b15, o16 + i * 4, none⟩)) (r_field0 rfl ek kk) ?_
   refine Fl (.int .i64 x13.id) (sgS (later c11 hc19) (nb_lo ho0_3 hb18)) ?_
   refine W.sn (fun b => .slice (some ⟨b, 0, none⟩) 1 1) #[.int .i64 x13.id] 3 s24 rfl kk rfl (fun _ => by kernel_rfl) (fun b25 w26 hb27 k28 x29 s30 => ?_)
   apply F.nx
   have lo31 : w.heap.size ≤ b25 := Nl ((Sb c11 s24 (fun kq e => (World.ownsRow.lt ho0_3 kq e).1))).size (Nat.le_of_eq hb27)
   have ho33 := own_kept ho0_3 k28
   refine W.sap (e := 3) (size := 1) (base := w.heap.size) (m := 1) (v := .slice A0_3 n0_3 c0_3) (c := 1) s30 rfl rfl rfl rfl kk kk kk ho33 x29 kk kk (by omega) (by omega) (by have := ((Sb c11 s30 (fun kq e => (World.ownsRow.lt ho0_3 kq e).1))).size; omega) (.inl rfl) (fun g34 cap35 w36 ho37 hg38 hat39 hlt40 s41 => ?_)
   apply F.nx
   have ho37 := own_snoc ho37
   refine Fa (.slice (some ⟨g34, 0, none⟩) (n0_3 + 1) cap35) ?_
   apply F.es
   have c43 := (Sb c11 s41 (fun kq e => (World.ownsRow.lt ho0_3 kq e).1))
   apply h8
   refine Rq 3 ?_
   refine Fv (.int .i64 (i : Int)) ?_
   refine Fq (.int .i64 ((i + 1 : Nat) : Int)) (r_add (m := (i : Int)) (n := 1) (z := ((i + 1 : Nat) : Int)) rfl ek ek (by omega) (by omega)) ?_
   refine Fa (.int .i64 ((i + 1 : Nat) : Int)) ?_
   apply F.es
   exact h5 _ _ _ (by omega : (n2 - (i + 1)) < _) ⟨i + 1, (some ⟨g34, 0, none⟩), (n0_3 + 1), cap35, Kn.of, rfl, (by omega), (by omega), (by rw [openIds_yes hx14 (by simpa using q23)]; exact ho37), c43⟩
  rw [q23]
  refine wp_cond_false ek ?_
  apply wp_skip
  apply h8
  refine Rq 3 ?_
  refine Fv (.int .i64 (i : Int)) ?_
  refine Fq (.int .i64 ((i + 1 : Nat) : Int)) (r_add (m := (i : Int)) (n := 1) (z := ((i + 1 : Nat) : Int)) rfl ek ek (by omega) (by omega)) ?_
  refine Fa (.int .i64 ((i + 1 : Nat) : Int)) ?_
  apply F.es
  exact h5 _ _ _ (by omega : (n2 - (i + 1)) < _) ⟨i + 1, A0_3, n0_3, c0_3, Kn.of, rfl, (by omega), (by omega), (by rw [openIds_no hx14 (by simpa using q23)]; exact ho0_3), c11⟩
 refine Fq (.bool false) (r_lss (m := (i : Int)) (n := (n2 : Int)) rfl ek ek (df q12)) ?_
 apply F.es
 apply h7
 refine wp_cond_false ek ?_
 refine wp_exit ?_
 apply h3
 refine wk fun K10 h10 => ?_
 refine Rq 2 ?_
 refine Fv (.slice A0_3 n0_3 c0_3) ?_
 refine Fa (.slice A0_3 n0_3 c0_3) ?_
 apply F.es
 apply h10
 refine wp_ret ?_
 try simp only [Exit.then]
 refine ret1 (v := .slice A0_3 n0_3 c0_3) rfl kk ?_
 have h9 := ho0_3
 rw [List.take_of_length_le (by omega)] at h9
 exact ⟨_, _, _, rfl, h9, c11⟩
set_option maxRecDepth 100000 in
set_option maxHeartbeats 8000000 in
theorem custF_any (z : Int) (w : World) :
    Calls Try.prog 140 #[.int .i64 z] w fun e w' => e = .returned (.bool (!inB z 0 1000)) ∧ Below w.heap.size w w' := by
 go_enter Try.func140, Try.ntmps140
 refine F.begin 6 [(0, .int .i64 z)] (fun U0 => ?_)
 refine wk fun K1 h1 => ?_
 refine Rq 1 ?_
 refine Fa (.bool false) ?_
 apply F.es
 apply h1
 refine wk fun K2 h2 => ?_
 refine W.region_plain (row := none) [(0, false), (1, true), (2, false), (3, false)] kk ?_
 have s1 := SG.self w none
 refine Fv (.int .i64 z) ?_
 refine Fc [.int .i64 z, .int .i64 0, .int .i64 1000] (inside_any z 0 1000 _) ?_
 rintro e w' ⟨rfl, rfl⟩
 refine ⟨_, rfl, s1, ?_⟩
 apply F.nx
 rcases Bool.eq_false_or_eq_true (inB z 0 1000) with q4 | q4
 ·rw [q4]
  refine Fq (.bool false) (r_not (b := true) rfl ek rfl) ?_
  refine Fa (.bool false) ?_
  apply F.es
  have c5 := (Sb (Below.refl _ _) s1 nkk)
  apply h2
  refine wp_ret ?_
  try simp only [Exit.then]
  refine ret1 (v := .bool false) rfl kk ?_
  exact ⟨by rw [q4]; try rfl, c5⟩
 rw [q4]
 refine Fq (.bool true) (r_not (b := false) rfl ek rfl) ?_
 refine Fa (.bool true) ?_
 apply F.es
 have c6 := (Sb (Below.refl _ _) s1 nkk)
 apply h2
 refine wp_ret ?_
 try simp only [Exit.then]
 refine ret1 (v := .bool true) rfl kk ?_
 exact ⟨by rw [q4]; try rfl, c6⟩
set_option maxRecDepth 100000 in
set_option maxHeartbeats 8000000 in
theorem areCustomers_any (m : Int) (A : Option Addr) (n c : Nat) (ps : List Pp) (A4 : Option Addr) (n4 c4 : Nat) (cs : List Int) (w : World) (ha : Rd w 4 A n (pipesV ps)) (hn : n ≤ 1048576) (hc4 : Rd w 1 A4 n4 (intsV cs)) (hn4 : n4 ≤ 1048576) :
    Calls Try.prog 104 #[.agg #[.int .i64 m, .slice A n c], .slice A4 n4 c4] w fun e w' => e = .returned (.bool (custOk m cs)) ∧ Below w.heap.size w w' := by
 have hl := rd_pipes_len ha
 have hl4 := rd_ints_len hc4
 go_enter Try.func104, Try.ntmps104
 refine F.begin 15 [(0, .agg #[.int .i64 m, .slice A n c]), (1, .slice A4 n4 c4)] (fun U0 => ?_)
 refine wk fun K1 h1 => ?_
 refine W.region_plain (row := none) [(0, true), (1, false)] kk ?_
 have s1 := SG.self w none
 refine W.sn (fun b => .pointer (some ⟨b, 0, none⟩)) #[.int .i64 m, .slice A n c] 26 s1 rfl kk rfl (fun _ => by kernel_rfl) (fun b2 w3 hb4 k5 x6 s7 => ?_)
 apply F.nx
 have lo8 : w.heap.size ≤ b2 := Nl ((Sb (Below.refl _ _) s1 nkk)).size (Nat.le_of_eq hb4)
 refine Fa (.bool false) ?_
 apply F.es
 have c9 := (Sb (Below.refl _ _) s7 nkk)
 apply h1
 refine wk fun K2 h2 => ?_
 refine W.region_plain (row := none) [(0, false), (1, false), (2, false), (3, false), (4, false), (5, false), (6, false), (7, true), (8, false), (9, false), (10, false)] kk ?_
 have s10 := SG.self w3 none
 refine Fv (.slice A4 n4 c4) ?_
 refine Fq (.int .i64 (n4 : Int)) (r_len (A := A4) (n := n4) (c := c4) rfl ek kk) ?_
 refine Fq (.pointer (some ⟨b2, 0, none⟩)) (r_field0 rfl ek kk) ?_
 refine Fl (.int .i64 m) (sgS (blk_cell (j := 0) x6 kk) onn) ?_
 by_cases q11 : ((n4 : Int) : Int) = (m : Int)
 ·refine Fq (.bool true) (r_eql (m := (n4 : Int)) (n := m) rfl ek ek (dt q11)) ?_
  refine Fv (.bool true) ?_
  refine Fv (.slice A4 n4 c4) ?_
  refine Fc [.slice A4 n4 c4, .func (.func 140) #[] #[]] (slContainsFunc_any A4 n4 c4 cs 140 #[] (fun c => !inB c 0 1000) _ (Rk hc4 (Sb c9 s10 nkk)) (by omega) kk (fun W v hW => custF_any v W)) ?_
  rintro e w13 ⟨rfl, b12⟩
  have s14 := SG.of_below s10 b12
  refine ⟨_, rfl, s14, ?_⟩
  apply F.nx
  rcases Bool.eq_false_or_eq_true (cs.any (fun c => !inB c 0 1000)) with q15 | q15
  ·rw [q15]
   refine Fq (.bool false) (r_not (b := true) rfl ek rfl) ?_
   refine Fq (.bool false) (r_pick (b := true) rfl ek ek) ?_
   refine Fa (.bool false) ?_
   apply F.es
   have c16 := (Sb c9 s14 nkk)
   apply h2
   refine wp_ret ?_
   try simp only [Exit.then]
   refine ret1 (v := .bool false) rfl kk ?_
   exact ⟨by have h9 := q15; rw [all_any, Bool.not_eq_true'] at h9; unfold custOk; rw [h9, Bool.and_false], c16⟩
  rw [q15]
  refine Fq (.bool true) (r_not (b := false) rfl ek rfl) ?_
  refine Fq (.bool true) (r_pick (b := true) rfl ek ek) ?_
  refine Fa (.bool true) ?_
  apply F.es
  have c17 := (Sb c9 s14 nkk)
  apply h2
  refine wp_ret ?_
  try simp only [Exit.then]
  refine ret1 (v := .bool true) rfl kk ?_
  exact ⟨by have h9 := q15; rw [all_any, Bool.not_eq_false'] at h9; unfold custOk; rw [h9, decide_eq_true (by omega)]; try rfl, c17⟩
 refine Fq (.bool false) (r_eql (m := (n4 : Int)) (n := m) rfl ek ek (df q11)) ?_
 refine Fv (.bool false) ?_
 refine Fs s10 ?_
 refine Fs s10 ?_
 refine Fs s10 ?_
 refine Fq (.bool false) (r_pick (b := false) rfl ek ek) ?_
 refine Fa (.bool false) ?_
 apply F.es
 have c18 := (Sb c9 s10 nkk)
 apply h2
 refine wp_ret ?_
 try simp only [Exit.then]
 refine ret1 (v := .bool false) rfl kk ?_
 exact ⟨by unfold custOk; rw [decide_eq_false (by omega)]; try rfl, c18⟩
set_option maxRecDepth 100000 in
set_option maxHeartbeats 8000000 in
theorem l5Customers_any (m : Int) (A : Option Addr) (n c : Nat) (ps : List Pp) (A4 : Option Addr) (n4 c4 : Nat) (cs : List Int) (w : World) (ha : Rd w 4 A n (pipesV ps)) (hn : n ≤ 1048576) (hc4 : Rd w 1 A4 n4 (intsV cs)) (hn4 : n4 ≤ 1048576) :
    Calls Try.prog 100 #[.agg #[.int .i64 m, .slice A n c], .slice A4 n4 c4] w fun e w' => e = .returned (.bool (custOk m cs)) ∧ Below w.heap.size w w' := by
 have hl := rd_pipes_len ha
 have hl4 := rd_ints_len hc4
 go_enter Try.func100, Try.ntmps100
 refine F.begin 23 [(0, .agg #[.int .i64 m, .slice A n c]), (1, .slice A4 n4 c4)] (fun U0 => ?_)
 refine wk fun K1 h1 => ?_
 refine W.region_plain (row := none) [(0, true), (1, false)] kk ?_
 have s1 := SG.self w none
 refine W.sn (fun b => .pointer (some ⟨b, 0, none⟩)) #[.int .i64 m, .slice A n c] 26 s1 rfl kk rfl (fun _ => by kernel_rfl) (fun b2 w3 hb4 k5 x6 s7 => ?_)
 apply F.nx
 have lo8 : w.heap.size ≤ b2 := Nl ((Sb (Below.refl _ _) s1 nkk)).size (Nat.le_of_eq hb4)
 refine Fa (.bool false) ?_
 apply F.es
 have c9 := (Sb (Below.refl _ _) s7 nkk)
 apply h1
 refine wk fun K2 h2 => ?_
 refine wk fun K3 h3 => ?_
 refine Rq 1 ?_
 refine Fa (.int .i64 0) ?_
 apply F.es
 apply h3
 refine wp_block ?_
 refine loopK (fun am0 aa0 wl0 => ∃ (k : Nat) , Kn aa0 [(0, .agg #[.int .i64 m, .slice A n c]), (1, .slice A4 n4 c4), (2, .pointer (some ⟨b2, 0, none⟩)), (4, .bool false), (5, .int .i64 (k : Int))] 23 ∧ (am0 = n4 - k) ∧ (k ≤ n4) ∧ (∀ j z, j < k → cs[j]? = some z → inB z 0 1000 = true) ∧ (wl0.heap[b2]? = some (.cells #[.int .i64 m, .slice A n c] 26 (0, 0))) ∧ (Below w.heap.size w wl0)) (n4 - 0) ?_ ?_
 ·exact ⟨0, Kn.of, rfl, (Nat.zero_le _), (fun j z hj => absurd hj (by omega)), x6, c9⟩
 rintro am0 aa0 wl0 K4 h4 ⟨k, ⟨U0, rfl⟩, rfl, hk, hno, x6, c10⟩
 refine wk fun K5 h5 => ?_
 refine wk fun K6 h6 => ?_
 refine Rq 4 ?_
 refine Fv (.int .i64 (k : Int)) ?_
 refine Fv (.slice A4 n4 c4) ?_
 refine Fq (.int .i64 (n4 : Int)) (r_len (A := A4) (n := n4) (c := c4) rfl ek kk) ?_
 by_cases q11 : ((k : Int) : Int) < ((n4 : Int) : Int)
 ·refine Fq (.bool true) (r_lss (m := (k : Int)) (n := (n4 : Int)) rfl ek ek (dt q11)) ?_
  apply F.es
  apply h6
  refine wp_cond_true ek ?_
  apply wp_skip
  apply h5
  refine wk fun K7 h7 => ?_
  refine wp_block ?_
  refine wk fun K8 h8 => ?_
  refine W.region_plain (row := none) [(0, false), (1, false), (2, false), (3, false), (4, true), (5, false)] kk ?_
  have s12 := SG.self wl0 none
  refine Fv (.slice A4 n4 c4) ?_
  refine Fv (.int .i64 (k : Int)) ?_
  obtain ⟨x13, hx14⟩ := get_of (zs := cs) (k := k) (by have := hl4; omega)
  obtain ⟨b15, o16, hA17, hb18, hc19⟩ := Rd.elInt hc4 hx14
  refine Fq (.pointer (some ⟨b15, o16 + k, none⟩)) (r_idx1 (n := n4) (c := c4) (k := k) rfl ek hA17 kk kk (by have := hl4; omega)) ?_
  refine Fl (.int .i64 x13) (sgS (later c10 hc19) (by simp)) ?_
  refine Fc [.int .i64 x13, .int .i64 0, .int .i64 1000] (l1In_any x13 0 1000 _) ?_
  rintro e w' ⟨rfl, rfl⟩
  refine ⟨_, rfl, s12, ?_⟩
  apply F.nx
  rcases Bool.eq_false_or_eq_true (inB x13 0 1000) with q22 | q22
  ·rw [q22]
   refine Fq (.bool false) (r_not (b := true) rfl ek rfl) ?_
   apply F.es
   have x6 := Sk s12 x6 onn
   have c23 := (Sb c10 s12 nkk)
   apply h8
   refine wp_cond_false ek ?_
   apply wp_skip
   apply h7
   refine Rq 3 ?_
   refine Fv (.int .i64 (k : Int)) ?_
   refine Fq (.int .i64 ((k + 1 : Nat) : Int)) (r_add (m := (k : Int)) (n := 1) (z := ((k + 1 : Nat) : Int)) rfl ek ek (by omega) (by omega)) ?_
   refine Fa (.int .i64 ((k + 1 : Nat) : Int)) ?_
   apply F.es
   exact h4 _ _ _ (by omega : (n4 - (k + 1)) < _) ⟨k + 1, Kn.of, rfl, (by omega), (upto_succ (Q := fun z => inB z 0 1000 = true) hno hx14 q22), x6, c23⟩
  rw [q22]
  refine Fq (.bool true) (r_not (b := false) rfl ek rfl) ?_
  apply F.es
  have x6 := Sk s12 x6 onn
  have c24 := (Sb c10 s12 nkk)
  apply h8
  refine wp_cond_true ek ?_
  refine wk fun K9 h9 => ?_
  refine Rq 1 ?_
  refine Fa (.bool false) ?_
  apply F.es
  apply h9
  refine wp_ret ?_
  try simp only [Exit.then, Exit.inBlock]
  refine ret1 (v := .bool false) rfl kk ?_
  exact ⟨by unfold custOk; rw [show cs.all (fun c => inB c 0 1000) = false from Bool.eq_false_iff.2 (fun h9 => by have := List.all_eq_true.1 h9 x13 (List.mem_of_getElem? hx14); rw [q22] at this; cases this), Bool.and_false], c24⟩
 refine Fq (.bool false) (r_lss (m := (k : Int)) (n := (n4 : Int)) rfl ek ek (df q11)) ?_
 apply F.es
 apply h6
 refine wp_cond_false ek ?_
 refine wp_exit ?_
 apply h2
 refine wk fun K10 h10 => ?_
 refine Rq 6 ?_
 refine Fv (.slice A4 n4 c4) ?_
 refine Fq (.int .i64 (n4 : Int)) (r_len (A := A4) (n := n4) (c := c4) rfl ek kk) ?_
 refine Fq (.pointer (some ⟨b2, 0, none⟩)) (r_field0 rfl ek kk) ?_
 refine Fl (.int .i64 m) (eqS (blk_cell (j := 0) x6 kk)) ?_
 by_cases q25 : ((n4 : Int) : Int) = (m : Int)
 ·refine Fq (.bool true) (r_eql (m := (n4 : Int)) (n := m) rfl ek ek (dt q25)) ?_
  refine Fa (.bool true) ?_
  apply F.es
  apply h10
  refine wp_ret ?_
  try simp only [Exit.then]
  refine ret1 (v := .bool true) rfl kk ?_
  have e8 : cs.all (fun c => inB c 0 1000) = true := List.all_eq_true.2 (fun c hc => by obtain ⟨j, hj, e⟩ := List.getElem_of_mem hc; exact hno j c (by omega) (by rw [List.getElem?_eq_getElem hj, e]))
  exact ⟨by unfold custOk; rw [e8, decide_eq_true (by omega)]; try rfl, c10⟩
 refine Fq (.bool false) (r_eql (m := (n4 : Int)) (n := m) rfl ek ek (df q25)) ?_
 refine Fa (.bool false) ?_
 apply F.es
 apply h10
 refine wp_ret ?_
 try simp only [Exit.then]
 refine ret1 (v := .bool false) rfl kk ?_
 have e8 : cs.all (fun c => inB c 0 1000) = true := List.all_eq_true.2 (fun c hc => by obtain ⟨j, hj, e⟩ := List.getElem_of_mem hc; exact hno j c (by omega) (by rw [List.getElem?_eq_getElem hj, e]))
 exact ⟨by unfold custOk; rw [e8, decide_eq_false (by omega)]; try rfl, c10⟩
set_option maxRecDepth 100000 in
set_option maxHeartbeats 8000000 in
theorem harmOf_any (m : Int) (A : Option Addr) (n c : Nat) (ps : List Pp) (A2 : Option Addr) (n2 c2 : Nat) (vs : List Vv) (s : Int) (A3 : Option Addr) (n3 c3 : Nat) (pl : List Int) (A4 : Option Addr) (n4 c4 : Nat) (cs : List Int) (w : World) (ha : Rd w 4 A n (pipesV ps)) (hb : Rd w 4 A2 n2 (valvesV vs)) (hn : n ≤ 1048576) (hn2 : n2 ≤ 1048576) (hfm2 : Fm A2 n2 c2) (hv9 : GoodVal m ps vs) (hs : 1 ≤ s ∧ s ≤ m) (hp3 : Rd w 1 A3 n3 (intsV pl)) (hn3 : n3 ≤ 1000000) (hc4 : Rd w 1 A4 n4 (intsV cs)) (hn4 : n4 ≤ 1048576) (hco : custOk m cs = true) :
    Calls Try.prog 120 #[.agg #[.int .i64 m, .slice A n c], .slice A2 n2 c2, .int .i64 s, .slice A3 n3 c3, .slice A4 n4 c4] w fun e w' => e = .returned (.int .i64 (harmL ps vs s cs pl)) ∧ Below w.heap.size w w' := by
 have hl := rd_pipes_len ha
 have hl2 := rd_valves_len hb
 have hl3 := rd_ints_len hp3
 have hg := hv9.net
 have hgl := hg.lo
 have hgh := hg.hi
 have hp := hg.pipesIn
 have hlen10 := hg.len
 have hu := hv9.uniq
 have hvl := hv9.len
 have hl4 := rd_ints_len hc4
 obtain ⟨hcl, hcb⟩ := custOk_of hco
 go_enter Try.func120, Try.ntmps120
 refine F.begin 40 [(0, .agg #[.int .i64 m, .slice A n c]), (1, .slice A2 n2 c2), (2, .int .i64 s), (3, .slice A3 n3 c3), (4, .slice A4 n4 c4)] (fun U0 => ?_)
 refine wk fun K1 h1 => ?_
 refine W.region_plain (row := none) [(0, true), (1, false)] kk ?_
 have s1 := SG.self w none
 refine W.sn (fun b => .pointer (some ⟨b, 0, none⟩)) #[.int .i64 m, .slice A n c] 26 s1 rfl kk rfl (fun _ => by kernel_rfl) (fun b2 w3 hb4 k5 x6 s7 => ?_)
 apply F.nx
 have lo8 : w.heap.size ≤ b2 := Nl ((Sb (Below.refl _ _) s1 nkk)).size (Nat.le_of_eq hb4)
 refine Fa (.int .i64 0) ?_
 apply F.es
 have c9 := (Sb (Below.refl _ _) s7 nkk)
 apply h1
 refine wk fun K2 h2 => ?_
 refine W.region_sch (row := none) (Sch.of [(0, false), (1, false), (2, false), (4, false), (3, true), (5, true), (6, false), (7, false)]) kk kk (fun _ d _ _ _ h => by cases d <;> exact h) kk (fun w10 e11 s12 => ?_)
 refine Fq (.agg #[.int .i64 m, .slice A n c]) (r_load2 rfl ek kk kk (sgS (blk_cell (j := 0) x6 kk) onn) (sgS (blk_cell (j := 1) x6 kk) onn)) ?_
 refine Fv (.slice A2 n2 c2) ?_
 refine Fv (.slice A3 n3 c3) ?_
 refine Fv (.int .i64 s) ?_
 refine Fc [.slice A2 n2 c2, .slice A3 n3 c3] (shutToo_any A2 n2 c2 vs A3 n3 c3 pl _ (Rk hb (Sb c9 s12 nkk)) (by omega) hfm2 (Rk hp3 (Sb c9 s12 nkk)) (by omega)) ?_
 rintro e w22 ⟨A13, n14, c15, rfl, ho16, b21⟩
 have s23 := SG.of_below s12 b21
 refine ⟨_, rfl, s23, ?_⟩
 apply F.nx
 have rd17 := own_rd ho16
 have hl18 := rd_valves_len rd17
 have := shutV_len vs pl
 refine Fc [.agg #[.int .i64 m, .slice A n c], .slice A13 n14 c15, .int .i64 s] (watered_any m A n c ps A13 n14 c15 (shutV vs pl) (s) (s).toNat _ (Rk ha (Sb c9 s23 nkk)) rd17 (by omega) (by omega) hp (by omega) (by omega) (uniqV_shut hu pl) (by omega) (by omega)) ?_
 rintro e w31 ⟨pb25, rfl, lo29, rd26, b30⟩
 have s32 := SG.of_below s23 b30
 refine ⟨_, rfl, s32, ?_⟩
 apply F.nx
 have hl27 := rd_bools_len rd26
 rw [wetL_len] at hl27
 have hl27 : (wetL (linked ps (openQ (shutV vs pl) true)) (s)).length = 19 := wetL_len _ _
 refine Fa (.pointer (some ⟨pb25, 0, none⟩)) ?_
 refine Fa (.int .i64 0) ?_
 apply F.es
 have x6 := Sk s32 x6 onn
 have c35 := (Sb c9 s32 nkk)
 apply h2
 refine wk fun K3 h3 => ?_
 refine wk fun K4 h4 => ?_
 refine Rq 3 ?_
 refine Fv (.slice A4 n4 c4) ?_
 refine Fq (.int .i64 (n4 : Int)) (r_len (A := A4) (n := n4) (c := c4) rfl ek kk) ?_
 refine Fv (.int .i64 0) ?_
 apply F.es
 apply h4
 refine wp_block ?_
 refine loopK (fun am0 aa0 wl0 => ∃ (i : Nat) (u : Int) , Kn aa0 [(0, .agg #[.int .i64 m, .slice A n c]), (1, .slice A2 n2 c2), (2, .int .i64 s), (3, .slice A3 n3 c3), (4, .slice A4 n4 c4), (5, .pointer (some ⟨b2, 0, none⟩)), (10, .int .i64 0), (11, .pointer (some ⟨pb25, 0, none⟩)), (12, .int .i64 u), (21, .slice A4 n4 c4), (22, .int .i64 (n4 : Int)), (23, .int .i64 (i : Int))] 40 ∧ (am0 = n4 - i) ∧ (i ≤ n4) ∧ (u = harmTo (linked ps (openQ (shutV vs pl) true)) s cs i) ∧ (wl0.heap[b2]? = some (.cells #[.int .i64 m, .slice A n c] 26 (0, 0))) ∧ (Rd wl0 1 (some ⟨pb25, 0, none⟩) 19 (boolsV (wetL (linked ps (openQ (shutV vs pl) true)) (s)))) ∧ (Below w.heap.size w wl0)) (n4 - 0) ?_ ?_
 ·exact ⟨0, 0, Kn.of, rfl, (Nat.zero_le _), rfl, x6, rd26, c35⟩
 rintro am0 aa0 wl0 K5 h5 ⟨i, u, ⟨U0, rfl⟩, rfl, hi, hsum, x6, rd0_11, c36⟩
 have hbd := harmTo_bd (E := (linked ps (openQ (shutV vs pl) true))) (s := s) hcb i (by omega)
 refine wk fun K6 h6 => ?_
 refine Rq 1 ?_
 by_cases q37 : ((i : Int) : Int) < ((n4 : Int) : Int)
 ·refine Fq (.bool true) (r_lss (m := (i : Int)) (n := (n4 : Int)) rfl ek ek (dt q37)) ?_
  apply F.es
  apply h6
  refine wk fun K7 h7 => ?_
  refine wp_cond_true ek ?_
  apply wp_skip
  apply h7
  refine wk fun K8 h8 => ?_
  refine wp_block ?_
  refine wk fun K9 h9 => ?_
  refine Rq 5 ?_
  refine Fv (.int .i64 (i : Int)) ?_
  obtain ⟨x38, hx39⟩ := get_of (zs := cs) (k := i) (by have := hl4; omega)
  have hcx := hcb x38 (List.mem_of_getElem? hx39)
  obtain ⟨b40, o41, hA42, hb43, hc44⟩ := Rd.elInt hc4 hx39
  refine Fq (.pointer (some ⟨b40, o41 + i, none⟩)) (r_idx1 (n := n4) (c := c4) (k := i) rfl ek hA42 kk kk (by have := hl4; omega)) ?_
  refine Fl (.int .i64 x38) (eqS (later c36 hc44)) ?_
  refine Fa (.int .i64 (i : Int)) ?_
  refine Fa (.int .i64 x38) ?_
  apply F.es
  apply h9
  refine wk fun K10 h10 => ?_
  refine Rq 7 ?_
  refine Fv (.pointer (some ⟨pb25, 0, none⟩)) ?_
  refine Fv (.int .i64 (i : Int)) ?_
  refine Fq (.int .i64 ((i + 1 : Nat) : Int)) (r_add (m := (i : Int)) (n := 1) (z := ((i + 1 : Nat) : Int)) rfl ek ek (by omega) (by omega)) ?_
  refine Fq (.pointer (some ⟨pb25, 0, none⟩)) (r_nilCheck rfl ek) ?_
  obtain ⟨x45, hx46⟩ := get_of (zs := (wetL (linked ps (openQ (shutV vs pl) true)) (s))) (k := i + 1) (by have := hl27; omega)
  obtain ⟨hb47, hc48⟩ := Rd.elBool rd0_11 hx46
  refine Fq (.pointer (some ⟨pb25, i + 1, none⟩)) (r_idxA (len := 19) (k := i + 1) rfl ek kk kk (by omega)) ?_
  refine Fl (.bool x45) (eqS hc48) ?_
  refine Fq (.bool (!x45)) (r_not (b := x45) rfl ek rfl) ?_
  apply F.es
  apply h10
  rcases Bool.eq_false_or_eq_true (!x45) with q49 | q49
  ·rw [q49]
   refine wp_cond_true ek ?_
   refine Rq 4 ?_
   refine Fv (.int .i64 u) ?_
   refine Fv (.int .i64 x38) ?_
   refine Fq (.int .i64 (u + x38)) (r_add (m := u) (n := x38) (z := u + x38) rfl ek ek (rfl) (by omega)) ?_
   refine Fa (.int .i64 (u + x38)) ?_
   apply F.es
   apply h8
   refine Rq 2 ?_
   refine Fq (.int .i64 ((i + 1 : Nat) : Int)) (r_add (m := (i : Int)) (n := 1) (z := ((i + 1 : Nat) : Int)) rfl ek ek (by omega) (by omega)) ?_
   refine Fv (.int .i64 ((i + 1 : Nat) : Int)) ?_
   apply F.es
   exact h5 _ _ _ (by omega : (n4 - (i + 1)) < _) ⟨i + 1, u + x38, Kn.of, rfl, (by omega), (by rw [hsum, harmTo_yes hx39 ((wet_eq1 hx46).trans (show x45 = false by simpa using q49))]), x6, rd0_11, c36⟩
  rw [q49]
  refine wp_cond_false ek ?_
  apply wp_skip
  apply h8
  refine Rq 2 ?_
  refine Fq (.int .i64 ((i + 1 : Nat) : Int)) (r_add (m := (i : Int)) (n := 1) (z := ((i + 1 : Nat) : Int)) rfl ek ek (by omega) (by omega)) ?_
  refine Fv (.int .i64 ((i + 1 : Nat) : Int)) ?_
  apply F.es
  exact h5 _ _ _ (by omega : (n4 - (i + 1)) < _) ⟨i + 1, u, Kn.of, rfl, (by omega), (by rw [hsum, harmTo_no ((wet_eq1 hx46).trans (show x45 = true by simpa using q49))]), x6, rd0_11, c36⟩
 refine Fq (.bool false) (r_lss (m := (i : Int)) (n := (n4 : Int)) rfl ek ek (df q37)) ?_
 apply F.es
 apply h6
 refine wk fun K11 h11 => ?_
 refine wp_cond_false ek ?_
 refine wp_exit ?_
 apply h3
 refine wk fun K12 h12 => ?_
 refine Rq 2 ?_
 refine Fv (.int .i64 u) ?_
 refine Fa (.int .i64 u) ?_
 apply F.es
 apply h12
 refine wp_ret ?_
 try simp only [Exit.then]
 refine ret1 (v := .int .i64 u) rfl kk ?_
 exact ⟨by unfold harmL; rw [show cs.length = i by omega, ← hsum], c36⟩
set_option maxRecDepth 100000 in
set_option maxHeartbeats 8000000 in
theorem l5Harm_any (m : Int) (A : Option Addr) (n c : Nat) (ps : List Pp) (A2 : Option Addr) (n2 c2 : Nat) (vs : List Vv) (s : Int) (A3 : Option Addr) (n3 c3 : Nat) (pl : List Int) (A4 : Option Addr) (n4 c4 : Nat) (cs : List Int) (w : World) (ha : Rd w 4 A n (pipesV ps)) (hb : Rd w 4 A2 n2 (valvesV vs)) (hn : n ≤ 1048576) (hn2 : n2 ≤ 1048576) (hfm2 : Fm A2 n2 c2) (hv9 : GoodVal m ps vs) (hs : 1 ≤ s ∧ s ≤ m) (hp3 : Rd w 1 A3 n3 (intsV pl)) (hn3 : n3 ≤ 1000000) (hc4 : Rd w 1 A4 n4 (intsV cs)) (hn4 : n4 ≤ 1048576) (hco : custOk m cs = true) :
    Calls Try.prog 121 #[.agg #[.int .i64 m, .slice A n c], .slice A2 n2 c2, .int .i64 s, .slice A3 n3 c3, .slice A4 n4 c4] w fun e w' => e = .returned (.int .i64 (harmL ps vs s cs pl)) ∧ Below w.heap.size w w' := by
 have hl := rd_pipes_len ha
 have hl2 := rd_valves_len hb
 have hl3 := rd_ints_len hp3
 have hg := hv9.net
 have hgl := hg.lo
 have hgh := hg.hi
 have hp := hg.pipesIn
 have hlen10 := hg.len
 have hu := hv9.uniq
 have hvl := hv9.len
 have hl4 := rd_ints_len hc4
 obtain ⟨hcl, hcb⟩ := custOk_of hco
 go_enter Try.func121, Try.ntmps121
 refine F.begin 41 [(0, .agg #[.int .i64 m, .slice A n c]), (1, .slice A2 n2 c2), (2, .int .i64 s), (3, .slice A3 n3 c3), (4, .slice A4 n4 c4)] (fun U0 => ?_)
 refine wk fun K1 h1 => ?_
 refine W.region_plain (row := none) [(0, true), (1, false)] kk ?_
 have s1 := SG.self w none
 refine W.sn (fun b => .pointer (some ⟨b, 0, none⟩)) #[.int .i64 m, .slice A n c] 26 s1 rfl kk rfl (fun _ => by kernel_rfl) (fun b2 w3 hb4 k5 x6 s7 => ?_)
 apply F.nx
 have lo8 : w.heap.size ≤ b2 := Nl ((Sb (Below.refl _ _) s1 nkk)).size (Nat.le_of_eq hb4)
 refine Fa (.int .i64 0) ?_
 apply F.es
 have c9 := (Sb (Below.refl _ _) s7 nkk)
 apply h1
 refine wk fun K2 h2 => ?_
 refine W.region_sch (row := none) (Sch.of [(0, false), (1, false), (2, false), (4, false), (3, true), (5, true), (6, false), (7, false), (8, false), (9, false), (10, false)]) kk kk (fun _ d _ _ _ h => by cases d <;> exact h) kk (fun w10 e11 s12 => ?_)
 refine Fq (.agg #[.int .i64 m, .slice A n c]) (r_load2 rfl ek kk kk (sgS (blk_cell (j := 0) x6 kk) onn) (sgS (blk_cell (j := 1) x6 kk) onn)) ?_
 refine Fv (.slice A2 n2 c2) ?_
 refine Fv (.slice A3 n3 c3) ?_
 refine Fv (.int .i64 s) ?_
 refine Fc [.slice A2 n2 c2, .slice A3 n3 c3] (l5Shut_any A2 n2 c2 vs A3 n3 c3 pl _ (Rk hb (Sb c9 s12 nkk)) (by omega) hfm2 (Rk hp3 (Sb c9 s12 nkk)) (by omega)) ?_
 rintro e w22 ⟨A13, n14, c15, rfl, ho16, b21⟩
 have s23 := SG.of_below s12 b21
 refine ⟨_, rfl, s23, ?_⟩
 apply F.nx
 have rd17 := own_rd ho16
 have hl18 := rd_valves_len rd17
 have := shutV_len vs pl
 refine Fc [.agg #[.int .i64 m, .slice A n c], .slice A13 n14 c15, .int .i64 s] (l4Dry_any m A n c ps A13 n14 c15 (shutV vs pl) s _ (Rk ha (Sb c9 s23 nkk)) rd17 (by omega) (by omega) hp (by omega) (by omega) (by omega)) ?_
 rintro e w40 ⟨A25, n26, c27, A28, n29, c30, rfl, rd31, fm32, rd33, fm34, b39⟩
 have s41 := SG.of_below s23 b39
 refine ⟨_, rfl, s41, ?_⟩
 apply F.nx
 have hl37 := rd_ints_len rd31
 have hl38 := rd_ints_len rd33
 have := nodesL_len (linked ps (openQ (shutV vs pl) true)) m.toNat s false
 have := idxL_len (linked ps (openQ (shutV vs pl) true)) ps.length s false
 refine Fv (.tuple #[.slice A25 n26 c27, .slice A28 n29 c30]) ?_
 refine Fq (.slice A25 n26 c27) (r_extract (vs := #[.slice A25 n26 c27, .slice A28 n29 c30]) rfl ek kk) ?_
 refine Fq (.slice A28 n29 c30) (r_extract (vs := #[.slice A25 n26 c27, .slice A28 n29 c30]) rfl ek kk) ?_
 refine Fa (.slice A25 n26 c27) ?_
 refine Fa (.slice A28 n29 c30) ?_
 apply F.es
 have x6 := Sk s41 x6 onn
 have c43 := (Sb c9 s41 nkk)
 apply h2
 refine wk fun K3 h3 => ?_
 refine Rq 1 ?_
 refine Fa (.int .i64 0) ?_
 apply F.es
 apply h3
 refine wk fun K4 h4 => ?_
 refine wk fun K5 h5 => ?_
 refine Rq 1 ?_
 refine Fa (.int .i64 0) ?_
 apply F.es
 apply h5
 refine wp_block ?_
 refine loopK (fun am0 aa0 wl0 => ∃ (i : Nat) (u : Int) , Kn aa0 [(0, .agg #[.int .i64 m, .slice A n c]), (1, .slice A2 n2 c2), (2, .int .i64 s), (3, .slice A3 n3 c3), (4, .slice A4 n4 c4), (5, .pointer (some ⟨b2, 0, none⟩)), (10, .int .i64 0), (11, .slice A25 n26 c27), (13, .int .i64 u), (14, .int .i64 (i : Int))] 41 ∧ (am0 = n26 - i) ∧ (i ≤ n26) ∧ (u = sumAt cs ((nodesL (linked ps (openQ (shutV vs pl) true)) m.toNat s false).take i)) ∧ (wl0.heap[b2]? = some (.cells #[.int .i64 m, .slice A n c] 26 (0, 0))) ∧ (Rd wl0 1 A25 n26 (intsV (nodesL (linked ps (openQ (shutV vs pl) true)) m.toNat s false))) ∧ (Below w.heap.size w wl0)) (n26 - 0) ?_ ?_
 ·exact ⟨0, 0, Kn.of, rfl, (Nat.zero_le _), rfl, x6, rd31, c43⟩
 rintro am0 aa0 wl0 K6 h6 ⟨i, u, ⟨U0, rfl⟩, rfl, hi, hsum, x6, rd0_11, c44⟩
 have hbd := sumAt_bd hcb ((nodesL (linked ps (openQ (shutV vs pl) true)) m.toNat s false).take i)
 have htl := List.length_take_le i (nodesL (linked ps (openQ (shutV vs pl) true)) m.toNat s false)
 refine wk fun K7 h7 => ?_
 refine wk fun K8 h8 => ?_
 refine Rq 4 ?_
 refine Fv (.int .i64 (i : Int)) ?_
 refine Fv (.slice A25 n26 c27) ?_
 refine Fq (.int .i64 (n26 : Int)) (r_len (A := A25) (n := n26) (c := c27) rfl ek kk) ?_
 by_cases q45 : ((i : Int) : Int) < ((n26 : Int) : Int)
 ·refine Fq (.bool true) (r_lss (m := (i : Int)) (n := (n26 : Int)) rfl ek ek (dt q45)) ?_
  apply F.es
  apply h8
  refine wp_cond_true ek ?_
  apply wp_skip
  apply h7
  refine wk fun K9 h9 => ?_
  refine wp_block ?_
  refine Rq 11 ?_
  refine Fv (.int .i64 u) ?_
  refine Fv (.slice A4 n4 c4) ?_
  refine Fv (.slice A25 n26 c27) ?_
  refine Fv (.int .i64 (i : Int)) ?_
  obtain ⟨x46, hx47⟩ := get_of (zs := (nodesL (linked ps (openQ (shutV vs pl) true)) m.toNat s false)) (k := i) (by have := hl37; omega)
  have hnb := mem_nodesL.1 (List.mem_of_getElem? hx47)
  obtain ⟨b48, o49, hA50, hb51, hc52⟩ := Rd.elInt rd0_11 hx47
  refine Fq (.pointer (some ⟨b48, o49 + i, none⟩)) (r_idx1 (n := n26) (c := c27) (k := i) rfl ek hA50 kk kk (by have := hl37; omega)) ?_
  refine Fl (.int .i64 x46) (eqS hc52) ?_
  refine Fq (.int .i64 (x46 - 1)) (r_sub (m := x46) (n := 1) (z := x46 - 1) rfl ek ek (rfl) (by omega)) ?_
  obtain ⟨c953, hc954⟩ := get_of (zs := cs) (k := (x46 - 1).toNat) (by omega)
  have hcx := hcb c953 (List.mem_of_getElem? hc954)
  obtain ⟨b55, o56, hA57, hb58, hc59⟩ := Rd.elInt hc4 hc954
  refine Fq (.pointer (some ⟨b55, o56 + ((x46 - 1).toNat), none⟩)) (r_idx1 (n := n4) (c := c4) (k := (x46 - 1).toNat) rfl ek hA57 (evk (z := x46 - 1) kk (by omega)) kk (by have := hl4; omega)) ?_
  refine Fl (.int .i64 c953) (eqS (later c44 hc59)) ?_
  refine Fq (.int .i64 (u + c953)) (r_add (m := u) (n := c953) (z := u + c953) rfl ek ek (rfl) (by omega)) ?_
  refine Fa (.int .i64 (u + c953)) ?_
  apply F.es
  apply h9
  refine Rq 3 ?_
  refine Fv (.int .i64 (i : Int)) ?_
  refine Fq (.int .i64 ((i + 1 : Nat) : Int)) (r_add (m := (i : Int)) (n := 1) (z := ((i + 1 : Nat) : Int)) rfl ek ek (by omega) (by omega)) ?_
  refine Fa (.int .i64 ((i + 1 : Nat) : Int)) ?_
  apply F.es
  exact h6 _ _ _ (by omega : (n26 - (i + 1)) < _) ⟨i + 1, u + c953, Kn.of, rfl, (by omega), (by rw [hsum, sumAt_next hx47 hc954]), x6, rd0_11, c44⟩
 refine Fq (.bool false) (r_lss (m := (i : Int)) (n := (n26 : Int)) rfl ek ek (df q45)) ?_
 apply F.es
 apply h8
 refine wp_cond_false ek ?_
 refine wp_exit ?_
 apply h4
 refine wk fun K10 h10 => ?_
 refine Rq 2 ?_
 refine Fv (.int .i64 u) ?_
 refine Fa (.int .i64 u) ?_
 apply F.es
 apply h10
 refine wp_ret ?_
 try simp only [Exit.then]
 refine ret1 (v := .int .i64 u) rfl kk ?_
 exact ⟨by unfold harmL; rw [hsum, List.take_of_length_le (by omega), sumAt_harm, show cs.length = m.toNat by omega], c44⟩
end Go.Proofs.Ytdbgfejeleafgaa
namespace Go.Proofs.Ytdbgfejeleafgaa
open Go.RowKit
set_option linter.unusedVariables false
set_option linter.unusedSimpArgs false
theorem riseTo_at {lo hi : Int} {zs : List Int} : ∀ {n k : Nat}, riseTo lo hi zs n = true → k < n → okI lo hi zs k = true
  | 0, k, _, hk => absurd hk (by omega)
  | n + 1, k, h, hk => by
    unfold riseTo at h
    rw [Bool.and_eq_true] at h
    by_cases e : k = n
    · subst e; exact h.2
    · exact riseTo_at h.1 (by omega)
theorem riseL_len {zs : List Int} (h : riseL 1 99 zs = true) : zs.length ≤ 99 := by
  have key : ∀ (k : Nat) (z : Int), zs[k]? = some z → (k : Int) + 1 ≤ z ∧ z ≤ 99 := by
    intro k
    induction k with
    | zero =>
      intro z hz
      have := riseTo_at h (List.getElem?_eq_some_iff.1 hz).1
      rw [okI_zero hz, inB_iff] at this; omega
    | succ k ih =>
      intro z hz
      have hk := (List.getElem?_eq_some_iff.1 hz).1
      have hy : zs[k]? = some zs[k] := List.getElem?_eq_getElem (by omega)
      have := riseTo_at h hk
      rw [okI_next hz hy, Bool.and_eq_true, inB_iff, decide_eq_true_eq] at this
      have := ih _ hy
      omega
  by_cases h0 : zs.length = 0
  · omega
  · have := key (zs.length - 1) zs[zs.length - 1] (List.getElem?_eq_getElem (by omega))
    omega
def planAll (vs : List Vv) (pl : List Int) : Bool := pl.all (fun a => (openIds vs).contains a)
theorem planAll_no {vs : List Vv} {pl : List Int} {k : Nat} {z : Int} (hz : pl[k]? = some z) (h : (openIds vs).contains z = false) : planAll vs pl = false := by
  unfold planAll; rw [List.all_eq_false]; exact ⟨z, List.mem_of_getElem? hz, by rw [h]; simp⟩
theorem planAll_yes {vs : List Vv} {pl : List Int} {n k : Nat} (hl : pl.length = n) (h : ∀ j z, j < k → pl[j]? = some z → (openIds vs).contains z = true) (hk : n ≤ k) : planAll vs pl = true := by
  unfold planAll; rw [List.all_eq_true]
  intro z hz
  obtain ⟨j, hj, e⟩ := List.getElem_of_mem hz
  exact h j z (by omega) (by rw [List.getElem?_eq_getElem hj, e])
noncomputable def IsPlan_v0 (m : Int) (ps : List Pp) (vs : List Vv) (s id : Int) (pl : List Int) : Bool := canB m ps vs s id && (riseL 1 99 pl && (planAll vs pl && cutB ps vs s id pl))
theorem IsPlan_of {m : Int} {ps : List Pp} {vs : List Vv} {s id : Int} {pl : List Int} (h : IsPlan_v0 m ps vs s id pl = true) : canB m ps vs s id = true ∧ riseL 1 99 pl = true ∧ planAll vs pl = true ∧ cutB ps vs s id pl = true := by
  unfold IsPlan_v0 at h; simp only [Bool.and_eq_true] at h; exact ⟨h.1, h.2.1, h.2.2.1, h.2.2.2⟩
noncomputable def HarmOf_v1 (m : Int) (ps : List Pp) (vs : List Vv) (s id : Int) (pl cs : List Int) : Bool := IsPlan_v0 m ps vs s id pl && custOk m cs
noncomputable def HarmOf_v0 (m : Int) (ps : List Pp) (vs : List Vv) (s id : Int) (pl cs : List Int) : Int := if HarmOf_v1 m ps vs s id pl cs = true then harmL ps vs s cs pl else 0
end Go.Proofs.Ytdbgfejeleafgaa
