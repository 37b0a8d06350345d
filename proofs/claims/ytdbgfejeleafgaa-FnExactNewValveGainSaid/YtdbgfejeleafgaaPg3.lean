/- What the texts behind it build on; conditions: none. -/
import Derived.Test.YtdbgfejeleafgaaPg2
namespace Go.Proofs.Ytdbgfejeleafgaa
open Go.RowKit
set_option linter.unusedVariables false
set_option linter.unusedSimpArgs false
theorem any_no {vs : List Vv} {q : Vv → Bool} {n k : Nat} (hl : vs.length = n) (h : ∀ j z, j < k → vs[j]? = some z → q z = false) (hk : n ≤ k) : vs.any q = false := by
  rw [← idxV_pos, idxV_none (fun j z hj => h j z (by omega))]; rfl
theorem any_yes {vs : List Vv} {q : Vv → Bool} {k : Nat} {x : Vv} (hx : vs[k]? = some x) (h : q x = true) : vs.any q = true := List.any_eq_true.2 ⟨x, List.mem_of_getElem? hx, h⟩
set_option maxRecDepth 100000 in
set_option maxHeartbeats 8000000 in
theorem l4Find_any (A : Option Addr) (n c : Nat) (vs : List Vv) (id : Int) (w : World) (ha : Rd w 4 A n (valvesV vs)) (hn : n ≤ 1048576) :
    Calls Try.prog 93 #[.slice A n c, .int .i64 id] w fun e w' => e = .returned (.int .i64 (idxV (fun v : Vv => decide (v.id = id)) vs)) ∧ Below w.heap.size w w' := by
 have hl := rd_valves_len ha
 go_enter Try.func93, Try.ntmps93
 refine F.begin 20 [(0, .slice A n c), (1, .int .i64 id)] (fun U0 => ?_)
 refine wk fun K1 h1 => ?_
 refine Rq 1 ?_
 refine Fa (.int .i64 0) ?_
 apply F.es
 apply h1
 refine wk fun K2 h2 => ?_
 refine wk fun K3 h3 => ?_
 refine Rq 1 ?_
 refine Fa (.int .i64 0) ?_
 apply F.es
 apply h3
 refine wp_block ?_
 refine loopK (fun am0 aa0 wl0 => ∃ (k : Nat) , Kn aa0 [(0, .slice A n c), (1, .int .i64 id), (4, .int .i64 0), (5, .int .i64 (k : Int))] 20 ∧ (am0 = n - k) ∧ (k ≤ n) ∧ (∀ j z, j < k → vs[j]? = some z → (fun v : Vv => decide (v.id = id)) z = false) ∧ (Below w.heap.size w wl0)) (n - 0) ?_ ?_
 ·exact ⟨0, Kn.of, rfl, (Nat.zero_le _), (fun j z hj => absurd hj (by omega)), (Below.refl _ _)⟩
 rintro am0 aa0 wl0 K4 h4 ⟨k, ⟨U0, rfl⟩, rfl, hk, hno, c1⟩
 refine wk fun K5 h5 => ?_
 refine wk fun K6 h6 => ?_
 refine Rq 4 ?_
 refine Fv (.int .i64 (k : Int)) ?_
 refine Fv (.slice A n c) ?_
 refine Fq (.int .i64 (n : Int)) (r_len (A := A) (n := n) (c := c) rfl ek kk) ?_
 by_cases q2 : ((k : Int) : Int) < ((n : Int) : Int)
 ·refine Fq (.bool true) (r_lss (m := (k : Int)) (n := (n : Int)) rfl ek ek (dt q2)) ?_
  apply F.es
  apply h6
  refine wp_cond_true ek ?_
  apply wp_skip
  apply h5
  refine wk fun K7 h7 => ?_
  refine wp_block ?_
  refine wk fun K8 h8 => ?_
  refine Rq 7 ?_
  refine Fv (.slice A n c) ?_
  refine Fv (.int .i64 (k : Int)) ?_
  obtain ⟨x3, hx4⟩ := get_of (zs := vs) (k := k) (by have := hl; omega)
  obtain ⟨b5, o6, hA7, hb8, hc9, hc10, hc11, hc12⟩ := Rd.elValve ha hx4
  refine Fq (.pointer (some ⟨b5, o6 + k * 4, none⟩)) (r_idx (n := n) (c := c) (k := k) rfl ek hA7 kk kk (by have := hl; omega)) ?_
  refine Fq (.pointer (some ⟨b5, o6 + k * 4, none⟩)) (r_field0 rfl ek kk) ?_
  refine Fl (.int .i64 x3.id) (eqS (later c1 hc9)) ?_
  refine Fv (.int .i64 id) ?_
  by_cases q13 : (x3.id : Int) = (id : Int)
  ·refine Fq (.bool true) (r_eql (m := x3.id) (n := id) rfl ek ek (dt q13)) ?_
   apply F.es
   apply h8
   refine wp_cond_true ek ?_
   refine wk fun K9 h9 => ?_
   refine Rq 2 ?_
   refine Fv (.int .i64 (k : Int)) ?_
   refine Fa (.int .i64 (k : Int)) ?_
   apply F.es
   apply h9
   refine wp_ret ?_
   try simp only [Exit.then, Exit.inBlock]
   refine ret1 (v := .int .i64 (k : Int)) rfl kk ?_
   exact ⟨by rw [idxV_at (q := fun v : Vv => decide (v.id = id)) hno hx4 (by simp_all)]; try rfl, c1⟩
  refine Fq (.bool false) (r_eql (m := x3.id) (n := id) rfl ek ek (df q13)) ?_
  apply F.es
  apply h8
  refine wp_cond_false ek ?_
  apply wp_skip
  apply h7
  refine Rq 3 ?_
  refine Fv (.int .i64 (k : Int)) ?_
  refine Fq (.int .i64 ((k + 1 : Nat) : Int)) (r_add (m := (k : Int)) (n := 1) (z := ((k + 1 : Nat) : Int)) rfl ek ek (by omega) (by omega)) ?_
  refine Fa (.int .i64 ((k + 1 : Nat) : Int)) ?_
  apply F.es
  exact h4 _ _ _ (by omega : (n - (k + 1)) < _) ⟨k + 1, Kn.of, rfl, (by omega), (upto_succ (Q := fun z => (fun v : Vv => decide (v.id = id)) z = false) hno hx4 (by simp_all)), c1⟩
 refine Fq (.bool false) (r_lss (m := (k : Int)) (n := (n : Int)) rfl ek ek (df q2)) ?_
 apply F.es
 apply h6
 refine wp_cond_false ek ?_
 refine wp_exit ?_
 apply h2
 refine wk fun K10 h10 => ?_
 refine Rq 1 ?_
 refine Fa (.int .i64 (-1)) ?_
 apply F.es
 apply h10
 refine wp_ret ?_
 try simp only [Exit.then]
 refine ret1 (v := .int .i64 (-1)) rfl kk ?_
 exact ⟨by rw [idxV_none (q := fun v : Vv => decide (v.id = id)) (fun j z hj => hno j z (by omega))]; try rfl, c1⟩
set_option maxRecDepth 100000 in
set_option maxHeartbeats 8000000 in
theorem l4Blocked_true (A : Option Addr) (n c : Nat) (vs : List Vv) (pipe node : Int) (w : World) (ha : Rd w 4 A n (valvesV vs)) (hn : n ≤ 1048576) :
    Calls Try.prog 132 #[.slice A n c, .int .i64 pipe, .int .i64 node, .bool true] w fun e w' => e = .returned (.bool (blocked vs pipe node true)) ∧ Below w.heap.size w w' := by
 have hl := rd_valves_len ha
 go_enter Try.func132, Try.ntmps132
 refine F.begin 43 [(0, .slice A n c), (1, .int .i64 pipe), (2, .int .i64 node), (3, .bool true)] (fun U0 => ?_)
 refine wk fun K1 h1 => ?_
 refine Rq 1 ?_
 refine Fa (.bool false) ?_
 apply F.es
 apply h1
 refine wk fun K2 h2 => ?_
 refine wk fun K3 h3 => ?_
 refine Rq 1 ?_
 refine Fa (.int .i64 0) ?_
 apply F.es
 apply h3
 refine wp_block ?_
 refine loopK (fun am0 aa0 wl0 => ∃ (k : Nat) , Kn aa0 [(0, .slice A n c), (1, .int .i64 pipe), (2, .int .i64 node), (3, .bool true), (8, .bool false), (9, .int .i64 (k : Int))] 43 ∧ (am0 = n - k) ∧ (k ≤ n) ∧ (∀ j z, j < k → vs[j]? = some z → (fun u : Vv => decide (u.pipe = pipe) && decide (u.node = node) && (!true || u.shut)) z = false) ∧ (Below w.heap.size w wl0)) (n - 0) ?_ ?_
 ·exact ⟨0, Kn.of, rfl, (Nat.zero_le _), (fun j z hj => absurd hj (by omega)), (Below.refl _ _)⟩
 rintro am0 aa0 wl0 K4 h4 ⟨k, ⟨U0, rfl⟩, rfl, hk, hno, c1⟩
 refine wk fun K5 h5 => ?_
 refine wk fun K6 h6 => ?_
 refine Rq 4 ?_
 refine Fv (.int .i64 (k : Int)) ?_
 refine Fv (.slice A n c) ?_
 refine Fq (.int .i64 (n : Int)) (r_len (A := A) (n := n) (c := c) rfl ek kk) ?_
 by_cases q2 : ((k : Int) : Int) < ((n : Int) : Int)
 ·refine Fq (.bool true) (r_lss (m := (k : Int)) (n := (n : Int)) rfl ek ek (dt q2)) ?_
  apply F.es
  apply h6
  refine wp_cond_true ek ?_
  apply wp_skip
  apply h5
  refine wk fun K7 h7 => ?_
  refine wp_block ?_
  refine wk fun K8 h8 => ?_
  refine Rq 27 ?_
  refine Fv (.slice A n c) ?_
  refine Fv (.int .i64 (k : Int)) ?_
  obtain ⟨x3, hx4⟩ := get_of (zs := vs) (k := k) (by have := hl; omega)
  obtain ⟨b5, o6, hA7, hb8, hc9, hc10, hc11, hc12⟩ := Rd.elValve ha hx4
  refine Fq (.pointer (some ⟨b5, o6 + k * 4, none⟩)) (r_idx (n := n) (c := c) (k := k) rfl ek hA7 kk kk (by have := hl; omega)) ?_
  refine Fq (.pointer (some ⟨b5, o6 + k * 4 + 1, none⟩)) (r_field (k := 1) rfl ek kk) ?_
  refine Fl (.int .i64 x3.pipe) (eqS (later c1 hc10)) ?_
  refine Fv (.int .i64 pipe) ?_
  by_cases q13 : (x3.pipe : Int) = (pipe : Int)
  ·refine Fq (.bool true) (r_eql (m := x3.pipe) (n := pipe) rfl ek ek (dt q13)) ?_
   refine Fv (.bool true) ?_
   refine Fv (.slice A n c) ?_
   refine Fv (.int .i64 (k : Int)) ?_
   refine Fq (.pointer (some ⟨b5, o6 + k * 4, none⟩)) (r_idx (n := n) (c := c) (k := k) rfl ek hA7 kk kk (by have := hl; omega)) ?_
   refine Fq (.pointer (some ⟨b5, o6 + k * 4 + 2, none⟩)) (r_field (k := 2) rfl ek kk) ?_
   refine Fl (.int .i64 x3.node) (eqS (later c1 hc11)) ?_
   refine Fv (.int .i64 node) ?_
   by_cases q14 : (x3.node : Int) = (node : Int)
   ·refine Fq (.bool true) (r_eql (m := x3.node) (n := node) rfl ek ek (dt q14)) ?_
    refine Fq (.bool true) (r_pick (b := true) rfl ek ek) ?_
    refine Fv (.bool true) ?_
    refine Fv (.bool true) ?_
    refine Fq (.bool false) (r_not (b := true) rfl ek rfl) ?_
    refine Fv (.bool false) ?_
    refine Fv (.slice A n c) ?_
    refine Fv (.int .i64 (k : Int)) ?_
    refine Fq (.pointer (some ⟨b5, o6 + k * 4, none⟩)) (r_idx (n := n) (c := c) (k := k) rfl ek hA7 kk kk (by have := hl; omega)) ?_
    refine Fq (.pointer (some ⟨b5, o6 + k * 4 + 3, none⟩)) (r_field (k := 3) rfl ek kk) ?_
    refine Fl (.bool x3.shut) (eqS (later c1 hc12)) ?_
    refine Fq (.bool x3.shut) (r_pick (b := false) rfl ek ek) ?_
    refine Fq (.bool x3.shut) (r_pick (b := true) rfl ek ek) ?_
    apply F.es
    apply h8
    rcases Bool.eq_false_or_eq_true x3.shut with q15 | q15
    ·rw [q15]
     refine wp_cond_true ek ?_
     refine wk fun K9 h9 => ?_
     refine Rq 1 ?_
     refine Fa (.bool true) ?_
     apply F.es
     apply h9
     refine wp_ret ?_
     try simp only [Exit.then, Exit.inBlock]
     refine ret1 (v := .bool true) rfl kk ?_
     exact ⟨by unfold blocked; rw [any_yes (q := fun u : Vv => decide (u.pipe = pipe) && decide (u.node = node) && (!true || u.shut)) hx4 (by simp_all)]; try rfl, c1⟩
    rw [q15]
    refine wp_cond_false ek ?_
    apply wp_skip
    apply h7
    refine Rq 3 ?_
    refine Fv (.int .i64 (k : Int)) ?_
    refine Fq (.int .i64 ((k + 1 : Nat) : Int)) (r_add (m := (k : Int)) (n := 1) (z := ((k + 1 : Nat) : Int)) rfl ek ek (by omega) (by omega)) ?_
    refine Fa (.int .i64 ((k + 1 : Nat) : Int)) ?_
    apply F.es
    exact h4 _ _ _ (by omega : (n - (k + 1)) < _) ⟨k + 1, Kn.of, rfl, (by omega), (upto_succ (Q := fun z => (fun u : Vv => decide (u.pipe = pipe) && decide (u.node = node) && (!true || u.shut)) z = false) hno hx4 (by simp_all)), c1⟩
   refine Fq (.bool false) (r_eql (m := x3.node) (n := node) rfl ek ek (df q14)) ?_
   refine Fq (.bool false) (r_pick (b := true) rfl ek ek) ?_
   refine Fv (.bool false) ?_
   refine Fs rfl ?_
   refine Fs rfl ?_
   refine Fs rfl ?_
   refine Fs rfl ?_
   refine Fs rfl ?_
   refine Fs rfl ?_
   refine Fs rfl ?_
   refine Fs rfl ?_
   refine Fs rfl ?_
   refine Fq (.bool false) (r_pick (b := false) rfl ek ek) ?_
   apply F.es
   apply h8
   refine wp_cond_false ek ?_
   apply wp_skip
   apply h7
   refine Rq 3 ?_
   refine Fv (.int .i64 (k : Int)) ?_
   refine Fq (.int .i64 ((k + 1 : Nat) : Int)) (r_add (m := (k : Int)) (n := 1) (z := ((k + 1 : Nat) : Int)) rfl ek ek (by omega) (by omega)) ?_
   refine Fa (.int .i64 ((k + 1 : Nat) : Int)) ?_
   apply F.es
   exact h4 _ _ _ (by omega : (n - (k + 1)) < _) ⟨k + 1, Kn.of, rfl, (by omega), (upto_succ (Q := fun z => (fun u : Vv => decide (u.pipe = pipe) && decide (u.node = node) && (!true || u.shut)) z = false) hno hx4 (by simp_all)), c1⟩
  refine Fq (.bool false) (r_eql (m := x3.pipe) (n := pipe) rfl ek ek (df q13)) ?_
  refine Fv (.bool false) ?_
  refine Fs rfl ?_
  refine Fs rfl ?_
  refine Fs rfl ?_
  refine Fs rfl ?_
  refine Fs rfl ?_
  refine Fs rfl ?_
  refine Fs rfl ?_
  refine Fq (.bool false) (r_pick (b := false) rfl ek ek) ?_
  refine Fv (.bool false) ?_
  refine Fs rfl ?_
  refine Fs rfl ?_
  refine Fs rfl ?_
  refine Fs rfl ?_
  refine Fs rfl ?_
  refine Fs rfl ?_
  refine Fs rfl ?_
  refine Fs rfl ?_
  refine Fs rfl ?_
  refine Fq (.bool false) (r_pick (b := false) rfl ek ek) ?_
  apply F.es
  apply h8
  refine wp_cond_false ek ?_
  apply wp_skip
  apply h7
  refine Rq 3 ?_
  refine Fv (.int .i64 (k : Int)) ?_
  refine Fq (.int .i64 ((k + 1 : Nat) : Int)) (r_add (m := (k : Int)) (n := 1) (z := ((k + 1 : Nat) : Int)) rfl ek ek (by omega) (by omega)) ?_
  refine Fa (.int .i64 ((k + 1 : Nat) : Int)) ?_
  apply F.es
  exact h4 _ _ _ (by omega : (n - (k + 1)) < _) ⟨k + 1, Kn.of, rfl, (by omega), (upto_succ (Q := fun z => (fun u : Vv => decide (u.pipe = pipe) && decide (u.node = node) && (!true || u.shut)) z = false) hno hx4 (by simp_all)), c1⟩
 refine Fq (.bool false) (r_lss (m := (k : Int)) (n := (n : Int)) rfl ek ek (df q2)) ?_
 apply F.es
 apply h6
 refine wp_cond_false ek ?_
 refine wp_exit ?_
 apply h2
 refine wk fun K10 h10 => ?_
 refine Rq 1 ?_
 refine Fa (.bool false) ?_
 apply F.es
 apply h10
 refine wp_ret ?_
 try simp only [Exit.then]
 refine ret1 (v := .bool false) rfl kk ?_
 exact ⟨by unfold blocked; rw [any_no (q := fun u : Vv => decide (u.pipe = pipe) && decide (u.node = node) && (!true || u.shut)) hl hno (by omega)]; try rfl, c1⟩
end Go.Proofs.Ytdbgfejeleafgaa
namespace Go.Proofs.Ytdbgfejeleafgaa
open Go.RowKit
set_option linter.unusedVariables false
set_option linter.unusedSimpArgs false
def openQ (vs : List Vv) (only : Bool) (p : Pp) (v : Int) : Bool := !blocked vs p.id v only
theorem two_of {a b y : Int} {k : Nat} (h : [a, b][k]? = some y) : (k = 0 ∧ y = a) ∨ (k = 1 ∧ y = b) := by
  rcases k with _ | _ | k
  · simp at h; exact .inl ⟨rfl, h.symm⟩
  · simp at h; exact .inr ⟨rfl, h.symm⟩
  · simp at h
theorem two_next {q : Pp → Int → Bool} {S : Int → Prop} {i k : Nat} {x : Pp} {y : Int} (hy : (k = 0 ∧ y = x.fr) ∨ (k = 1 ∧ y = x.to)) (h1 : 1 ≤ k → okP q S i x x.fr) (h : okP q S i x y) : (1 ≤ k + 1 → okP q S i x x.fr) ∧ (2 ≤ k + 1 → okP q S i x x.to) := by
  rcases hy with ⟨rfl, rfl⟩ | ⟨rfl, rfl⟩
  · exact ⟨fun _ => h, fun h' => absurd h' (by omega)⟩
  · exact ⟨fun _ => h1 (by omega), fun _ => h⟩
def uniqV (vs : List Vv) : Prop := ∀ u v, u ∈ vs → v ∈ vs → u.pipe = v.pipe → u.node = v.node → u = v
abbrev atQ (p : Pp) (v : Int) : Vv → Bool := fun u => decide (u.pipe = p.id) && decide (u.node = v)
theorem idx_neg {vs : List Vv} {p : Pp} {v : Int} (only : Bool) (h : idxV (atQ p v) vs < 0) : openQ vs only p v = true := by
  have h2 : vs.any (atQ p v) = false := by rw [← idxV_pos]; exact decide_eq_false (by omega)
  unfold openQ blocked
  rw [Bool.not_eq_true', List.any_eq_false]
  intro u hu
  have := List.any_eq_false.1 h2 u hu
  simp only [Bool.and_eq_true, not_and] at this ⊢
  exact fun h => absurd h.2 (fun h' => this h.1 h')
theorem idx_some {vs : List Vv} {q : Vv → Bool} (h : ¬ idxV q vs < 0) : ∃ (k : Nat) (x : Vv), idxV q vs = (k : Int) ∧ vs[k]? = some x ∧ q x = true := by
  rcases idxV_cases q vs with ⟨h1, _⟩ | ⟨k, x, h1, h2, h3, _⟩
  · omega
  · exact ⟨k, x, h1, h2, h3⟩
theorem idx_shut {vs : List Vv} {p : Pp} {v : Int} (hu : uniqV vs) {k : Nat} {x : Vv} (hx : vs[k]? = some x) (hq : atQ p v x = true) : openQ vs true p v = !x.shut := by
  unfold openQ blocked
  refine congrArg (!·) ?_
  have hq' : x.pipe = p.id ∧ x.node = v := by simpa using hq
  rw [Bool.eq_iff_iff, List.any_eq_true]
  constructor
  · rintro ⟨u, hm, h⟩
    have h' : (u.pipe = p.id ∧ u.node = v) ∧ u.shut = true := by simpa using h
    have e := hu u x hm (List.mem_of_getElem? hx) (by omega) (by omega)
    rw [← e]; exact h'.2
  · intro h; exact ⟨x, List.mem_of_getElem? hx, by simp [hq', h]⟩
set_option maxRecDepth 100000 in
set_option maxHeartbeats 8000000 in
theorem element_any (i : Int) (w : World) (h0 : -1 ≤ i ∧ i ≤ 1000) :
    Calls Try.prog 74 #[.int .i64 i] w fun e w' => e = .returned (.int .i64 (9 + i)) ∧ w = w' := by
 go_enter Try.func74, Try.ntmps74
 refine F.begin 5 [(0, .int .i64 i)] (fun U0 => ?_)
 refine wk fun K1 h1 => ?_
 refine Rq 1 ?_
 refine Fa (.int .i64 0) ?_
 apply F.es
 apply h1
 refine wk fun K2 h2 => ?_
 refine Rq 3 ?_
 refine Fv (.int .i64 i) ?_
 refine Fq (.int .i64 (9 + i)) (r_add (m := 9) (n := i) (z := 9 + i) rfl ek ek (rfl) (by omega)) ?_
 refine Fa (.int .i64 (9 + i)) ?_
 apply F.es
 apply h2
 refine wp_ret ?_
 try simp only [Exit.then]
 refine ret1 (v := .int .i64 (9 + i)) rfl kk ?_
 exact ⟨rfl, rfl⟩
theorem elementN_any (i : Nat) (w : World) (h0 : i ≤ 1000) : Calls Try.prog 74 #[.int .i64 ((i : Nat) : Int)] w fun e w' => e = .returned (.int .i64 ((9 + i : Nat) : Int)) ∧ w = w' := by
  refine (element_any (i : Int) w (by omega)).mono ?_
  rintro e w' ⟨rfl, rfl⟩
  exact ⟨by rw [show ((9 + i : Nat) : Int) = 9 + (i : Int) by omega], rfl⟩
set_option maxRecDepth 100000 in
set_option maxHeartbeats 8000000 in
theorem watF_any (p : Pp) (v : Int) (B : Nat) (A2 : Option Addr) (n2 c2 : Nat) (vs : List Vv) (w : World) (hB : w.heap[B]? = some (.cells #[.slice A2 n2 c2] 27 (0, 0))) (hb : Rd w 4 A2 n2 (valvesV vs)) (hn2 : n2 ≤ 1048576) (hu : uniqV vs) :
    Calls Try.prog 136 #[.agg #[.int .i64 p.id, .int .i64 p.fr, .int .i64 p.to, .int .i64 p.sz], .int .i64 v, .pointer (some ⟨B, 0, none⟩)] w fun e w' => e = .returned (.bool (openQ vs true p v)) ∧ Below w.heap.size w w' := by
 have hl2 := rd_valves_len hb
 go_enter Try.func136, Try.ntmps136
 refine F.begin 21 [(0, .agg #[.int .i64 p.id, .int .i64 p.fr, .int .i64 p.to, .int .i64 p.sz]), (1, .int .i64 v), (2, .pointer (some ⟨B, 0, none⟩))] (fun U0 => ?_)
 refine wk fun K1 h1 => ?_
 refine W.region_plain (row := none) [(0, true), (1, false)] kk ?_
 have s1 := SG.self w none
 refine W.sn (fun b => .pointer (some ⟨b, 0, none⟩)) #[.int .i64 p.id, .int .i64 p.fr, .int .i64 p.to, .int .i64 p.sz] 51 s1 rfl kk rfl (fun _ => by kernel_rfl) (fun b2 w3 hb4 k5 x6 s7 => ?_)
 apply F.nx
 have lo8 : w.heap.size ≤ b2 := Nl ((Sb (Below.refl _ _) s1 nkk)).size (Nat.le_of_eq hb4)
 refine Fa (.bool false) ?_
 apply F.es
 have hB := Sk s7 hB onn
 have c10 := (Sb (Below.refl _ _) s7 nkk)
 apply h1
 refine wk fun K2 h2 => ?_
 refine W.region_plain (row := none) [(0, false), (1, false), (2, false), (3, true), (4, false)] kk ?_
 have s11 := SG.self w3 none
 refine Fl (.slice A2 n2 c2) (sgS (blk_cell (j := 0) hB kk) onn) ?_
 refine Fq (.agg #[.int .i64 p.id, .int .i64 p.fr, .int .i64 p.to, .int .i64 p.sz]) (r_load4 rfl ek kk kk (sgS (blk_cell (j := 0) x6 kk) onn) (sgS (blk_cell (j := 1) x6 kk) onn) (sgS (blk_cell (j := 2) x6 kk) onn) (sgS (blk_cell (j := 3) x6 kk) onn)) ?_
 refine Fv (.int .i64 v) ?_
 refine Fc [.slice A2 n2 c2, .agg #[.int .i64 p.id, .int .i64 p.fr, .int .i64 p.to, .int .i64 p.sz], .int .i64 v] (valveAt_any A2 n2 c2 vs p v _ (Rk hb (Sb c10 s11 nkk)) (by omega)) ?_
 rintro e w13 ⟨rfl, b12⟩
 have s14 := SG.of_below s11 b12
 refine ⟨_, rfl, s14, ?_⟩
 apply F.nx
 refine Fa (.int .i64 (idxV (atQ p v) vs)) ?_
 apply F.es
 have hB := Sk s14 hB onn
 have c15 := (Sb c10 s14 nkk)
 apply h2
 refine wk fun K3 h3 => ?_
 refine Rq 11 ?_
 refine Fv (.int .i64 (idxV (atQ p v) vs)) ?_
 by_cases q16 : (idxV (atQ p v) vs : Int) < (0 : Int)
 ·refine Fq (.bool true) (r_lss (m := idxV (atQ p v) vs) (n := 0) rfl ek ek (dt q16)) ?_
  refine Fv (.bool true) ?_
  refine Fs rfl ?_
  refine Fs rfl ?_
  refine Fs rfl ?_
  refine Fs rfl ?_
  refine Fs rfl ?_
  refine Fs rfl ?_
  refine Fq (.bool true) (r_pick (b := true) rfl ek ek) ?_
  refine Fa (.bool true) ?_
  apply F.es
  apply h3
  refine wp_ret ?_
  try simp only [Exit.then]
  refine ret1 (v := .bool true) rfl kk ?_
  exact ⟨ret_bool (idx_neg true q16).symm, c15⟩
 refine Fq (.bool false) (r_lss (m := idxV (atQ p v) vs) (n := 0) rfl ek ek (df q16)) ?_
 refine Fv (.bool false) ?_
 refine Fl (.slice A2 n2 c2) (eqS (blk_cell (j := 0) hB kk)) ?_
 refine Fv (.int .i64 (idxV (atQ p v) vs)) ?_
 obtain ⟨k9, x9, e9, hx9, hq9⟩ := idx_some q16
 have hk9 := (List.getElem?_eq_some_iff.1 hx9).1
 obtain ⟨b17, o18, hA19, hb20, hc21, hc22, hc23, hc24⟩ := Rd.elValve hb hx9
 refine Fq (.pointer (some ⟨b17, o18 + k9 * 4, none⟩)) (r_idx (n := n2) (c := c2) (k := k9) rfl ek hA19 (evk (z := idxV (atQ p v) vs) kk e9) kk (by have := hl2; omega)) ?_
 refine Fq (.pointer (some ⟨b17, o18 + k9 * 4 + 3, none⟩)) (r_field (k := 3) rfl ek kk) ?_
 refine Fl (.bool x9.shut) (eqS (later c15 hc24)) ?_
 refine Fq (.bool (!x9.shut)) (r_not (b := x9.shut) rfl ek rfl) ?_
 refine Fq (.bool (!x9.shut)) (r_pick (b := false) rfl ek ek) ?_
 refine Fa (.bool (!x9.shut)) ?_
 apply F.es
 apply h3
 refine wp_ret ?_
 try simp only [Exit.then]
 refine ret1 (v := .bool (!x9.shut)) rfl kk ?_
 exact ⟨ret_bool (idx_shut hu hx9 hq9).symm, c15⟩
set_option maxRecDepth 100000 in
set_option maxHeartbeats 8000000 in
theorem reached_any (m : Int) (A : Option Addr) (n c : Nat) (ps : List Pp) (a : Int) (s : Nat) (g : FuncId) (lb : Array Value) (q : Pp → Int → Bool) (w : World) (ha : Rd w 4 A n (pipesV ps)) (hn : n ≤ 1048576) (hp : pipesIn ps m.toNat) (hm : 1 ≤ m ∧ m ≤ 8) (hlen10 : ps.length ≤ 10) (hs : s < 19) (has : a = (s : Int)) (he : enters Try.prog g = true) (HG : ∀ W (p : Pp) (v : Int), Below w.heap.size w W → Calls Try.prog g (#[.agg #[.int .i64 p.id, .int .i64 p.fr, .int .i64 p.to, .int .i64 p.sz], .int .i64 v] ++ lb) W fun e w' => e = .returned (.bool (q p v)) ∧ Below W.heap.size W w') :
    Calls Try.prog 127 #[.agg #[.int .i64 m, .slice A n c], .int .i64 a, .func (.func g) #[] lb] w fun e w' => ∃ b, e = .returned (.pointer (some ⟨b, 0, none⟩)) ∧ w.heap.size ≤ b ∧ Rd w' 1 (some ⟨b, 0, none⟩) 19 (boolsV (wetL (linked ps q) a)) ∧ Below w.heap.size w w' := by
 have hl := rd_pipes_len ha
 subst has
 go_enter Try.func127, Try.ntmps127
 refine F.begin 68 [(0, .agg #[.int .i64 m, .slice A n c]), (1, .int .i64 (s : Int)), (2, .func (.func g) #[] lb)] (fun U0 => ?_)
 refine wk fun K1 h1 => ?_
 refine W.region_plain (row := none) [(0, true), (1, false)] kk ?_
 have s1 := SG.self w none
 refine W.sn (fun b => .pointer (some ⟨b, 0, none⟩)) #[.int .i64 m, .slice A n c] 26 s1 rfl kk rfl (fun _ => by kernel_rfl) (fun b2 w3 hb4 k5 x6 s7 => ?_)
 apply F.nx
 have lo8 : w.heap.size ≤ b2 := Nl ((Sb (Below.refl _ _) s1 nkk)).size (Nat.le_of_eq hb4)
 refine Fa (.pointer none) ?_
 apply F.es
 have c9 := (Sb (Below.refl _ _) s7 nkk)
 apply h1
 refine wk fun K2 h2 => ?_
 refine W.region_plain (row := none) [(0, false), (1, true), (2, false)] kk ?_
 have s10 := SG.self w3 none
 refine Fq (.agg #[.bool false, .bool false, .bool false, .bool false, .bool false, .bool false, .bool false, .bool false, .bool false, .bool false, .bool false, .bool false, .bool false, .bool false, .bool false, .bool false, .bool false, .bool false, .bool false]) (r_build rfl (vs := []) kk kk) ?_
 refine W.sn (fun b => .pointer (some ⟨b, 0, none⟩)) #[.bool false, .bool false, .bool false, .bool false, .bool false, .bool false, .bool false, .bool false, .bool false, .bool false, .bool false, .bool false, .bool false, .bool false, .bool false, .bool false, .bool false, .bool false, .bool false] 111 s10 rfl kk rfl (fun _ => by kernel_rfl) (fun b11 w12 hb13 k14 x15 s16 => ?_)
 apply F.nx
 have lo17 : w.heap.size ≤ b11 := Nl ((Sb c9 s10 nkk)).size (Nat.le_of_eq hb13)
 have ne18 : b2 ≠ b11 := Nat.ne_of_lt (Nat.lt_of_lt_of_eq (Nat.lt_of_lt_of_le (blk_lt x6) (s10).size) hb13)
 have ho19 := own_blk (base := w.heap.size) (size := 1) (n := 19) x15 lo17 rfl (by omega)
 replace ho19 : World.ownsRow _ _ _ _ _ _ (boolsV (List.replicate 19 false)) := ho19
 have nb20 : Nb b2 (.slice (some ⟨b11, 0, none⟩) 19 19) := nb_new ne18
 refine Fa (.pointer (some ⟨b11, 0, none⟩)) ?_
 apply F.es
 have x6 := Sk s16 x6 onn
 have c21 := (Sb c9 s16 nkk)
 apply h2
 refine wk fun K3 h3 => ?_
 refine W.region_plain (row := (Value.ownBlock (.slice (some ⟨b11, 0, none⟩) 19 19))) [(0, false), (1, false), (2, false), (3, false), (4, true)] kk ?_
 have s22 := SG.self w12 (Value.ownBlock (.slice (some ⟨b11, 0, none⟩) 19 19))
 refine Fv (.pointer (some ⟨b11, 0, none⟩)) ?_
 refine Fv (.int .i64 (s : Int)) ?_
 refine Fq (.pointer (some ⟨b11, 0, none⟩)) (r_nilCheck rfl ek) ?_
 refine Fq (.pointer (some ⟨b11, s, none⟩)) (r_idxA (len := 19) (k := s) rfl ek kk kk (by omega)) ?_
 refine W.ssr (base := w.heap.size) (e := 111) (j := s) (u := .bool true) s22 rfl kk rfl rfl kk kk ho19 kk kk kk (by omega) (.inl rfl) (fun w23 ho24 g25 s26 => ?_)
 have ho24 := own_setB ho24
 apply F.es
 have x6 := Sk s26 x6 nb20
 have c27 := (Sb c21 s26 (fun kq e => (World.ownsRow.lt ho19 kq e).1))
 apply h3
 refine wk fun K4 h4 => ?_
 refine wk fun K5 h5 => ?_
 refine Rq 1 ?_
 refine Fa (.bool true) ?_
 apply F.es
 apply h5
 refine wp_block ?_
 refine loopK (fun am0 aa0 wl0 => ∃ (bs0 : List Bool) (mo : Bool) , Kn aa0 [(0, .agg #[.int .i64 m, .slice A n c]), (1, .int .i64 (s : Int)), (2, .func (.func g) #[] lb), (3, .pointer (some ⟨b2, 0, none⟩)), (7, .pointer (some ⟨b11, 0, none⟩)), (8, .bool mo)] 68 ∧ (am0 = 2 * offs bs0 + mo.toNat) ∧ (FndE (linked ps q) (s : Int) (inL bs0)) ∧ (bs0.length = 19) ∧ (mo = false → shutE ps q (inL bs0) ps.length) ∧ (wl0.heap[b2]? = some (.cells #[.int .i64 m, .slice A n c] 26 (0, 0))) ∧ (wl0.ownsRow w.heap.size 111 1 (.slice (some ⟨b11, 0, none⟩) 19 19) 19 (boolsV bs0)) ∧ (Below w.heap.size w wl0)) (2 * offs ((List.replicate 19 false).set s true) + true.toNat) ?_ ?_
 ·exact ⟨(List.replicate 19 false).set s true, true, Kn.of, rfl, (FndE_start hs rfl), (by simp), (fun e => by cases e), x6, ho24, c27⟩
 rintro am0 aa0 wl0 K6 h6 ⟨bs0, mo, ⟨U0, rfl⟩, rfl, hf, hlen, hsh, x6, ho0_7, c28⟩
 refine wk fun K7 h7 => ?_
 refine wk fun K8 h8 => ?_
 refine Rq 1 ?_
 refine Fv (.bool mo) ?_
 apply F.es
 apply h8
 rcases Bool.eq_false_or_eq_true mo with q29 | q29
 ·rw [q29]
  have qmo := q29
  refine wp_cond_true ek ?_
  apply wp_skip
  apply h7
  refine wp_block ?_
  refine wk fun K9 h9 => ?_
  refine Rq 1 ?_
  refine Fa (.bool false) ?_
  apply F.es
  apply h9
  refine wk fun K10 h10 => ?_
  refine Rq 4 ?_
  refine Fq (.pointer (some ⟨b2, 1, none⟩)) (r_field (k := 1) rfl ek kk) ?_
  refine Fl (.slice A n c) (eqS (blk_cell (j := 1) x6 kk)) ?_
  refine Fq (.int .i64 (n : Int)) (r_len (A := A) (n := n) (c := c) rfl ek kk) ?_
  refine Fv (.int .i64 0) ?_
  apply F.es
  apply h10
  refine wp_block ?_
  refine loopK (fun am1 aa1 wl1 => ∃ (i : Nat) (bs : List Bool) (mo2 : Bool) , Kn aa1 [(0, .agg #[.int .i64 m, .slice A n c]), (1, .int .i64 (s : Int)), (2, .func (.func g) #[] lb), (3, .pointer (some ⟨b2, 0, none⟩)), (7, .pointer (some ⟨b11, 0, none⟩)), (8, .bool mo2), (19, .bool true), (21, .slice A n c), (22, .int .i64 (n : Int)), (23, .int .i64 (i : Int))] 68 ∧ (am1 = n - i) ∧ (i ≤ n) ∧ (FndE (linked ps q) (s : Int) (inL bs)) ∧ (bs.length = 19) ∧ (mo2 = true → offs bs < offs bs0) ∧ (mo2 = false → bs = bs0 ∧ shutE ps q (inL bs) i) ∧ (wl1.heap[b2]? = some (.cells #[.int .i64 m, .slice A n c] 26 (0, 0))) ∧ (wl1.ownsRow w.heap.size 111 1 (.slice (some ⟨b11, 0, none⟩) 19 19) 19 (boolsV bs)) ∧ (Below w.heap.size w wl1)) (n - 0) ?_ ?_
  ·exact ⟨0, bs0, false, Kn.of, rfl, (Nat.zero_le _), hf, hlen, (fun e => by cases e), (fun _ => ⟨rfl, shutE_zero _ _ _⟩), x6, ho0_7, c28⟩
  rintro am1 aa1 wl1 K11 h11 ⟨i, bs, mo2, ⟨U1, rfl⟩, rfl, hi, hf2, hlen2, hmt2, hmf2, x6, ho1_7, c30⟩
  refine wk fun K12 h12 => ?_
  refine Rq 1 ?_
  by_cases q31 : ((i : Int) : Int) < ((n : Int) : Int)
  ·refine Fq (.bool true) (r_lss (m := (i : Int)) (n := (n : Int)) rfl ek ek (dt q31)) ?_
   apply F.es
   apply h12
   refine wk fun K13 h13 => ?_
   refine wp_cond_true ek ?_
   apply wp_skip
   apply h13
   refine wk fun K14 h14 => ?_
   refine wp_block ?_
   refine wk fun K15 h15 => ?_
   refine W.region_plain (row := none) [(0, false), (1, false), (2, false), (3, true), (4, false), (5, true)] kk ?_
   have s32 := SG.self wl1 none
   refine Fv (.int .i64 (i : Int)) ?_
   obtain ⟨x33, hx34⟩ := get_of (zs := ps) (k := i) (by have := hl; omega)
   obtain ⟨b35, o36, hA37, hb38, hc39, hc40, hc41, hc42⟩ := Rd.elPipe ha hx34
   refine Fq (.pointer (some ⟨b35, o36 + i * 4, none⟩)) (r_idx (n := n) (c := c) (k := i) rfl ek hA37 kk kk (by have := hl; omega)) ?_
   refine Fq (.agg #[.int .i64 x33.id, .int .i64 x33.fr, .int .i64 x33.to, .int .i64 x33.sz]) (r_load4 rfl ek kk kk (sgS (later c30 hc39) (by simp)) (sgS (later c30 hc40) (by simp)) (sgS (later c30 hc41) (by simp)) (sgS (later c30 hc42) (by simp))) ?_
   refine W.sn (fun b => .pointer (some ⟨b, 0, none⟩)) #[.int .i64 0, .int .i64 0, .int .i64 0, .int .i64 0] 51 s32 rfl kk rfl (fun _ => by kernel_rfl) (fun b43 w44 hb45 k46 x47 s48 => ?_)
   apply F.nx
   have lo49 : w.heap.size ≤ b43 := Nl ((Sb c30 s32 nkk)).size (Nat.le_of_eq hb45)
   have nb51 : Nb b43 (.slice (some ⟨b11, 0, none⟩) 19 19) := nb_hi ho1_7 (Nat.le_of_eq hb45)
   have ho52 := own_kept ho1_7 k46
   refine Fa (.int .i64 (i : Int)) ?_
   refine W.ss (v := .agg #[.int .i64 x33.id, .int .i64 x33.fr, .int .i64 x33.to, .int .i64 x33.sz]) (j := 0) (news := [.int .i64 x33.id, .int .i64 x33.fr, .int .i64 x33.to, .int .i64 x33.sz]) (cs' := #[.int .i64 x33.id, .int .i64 x33.fr, .int .i64 x33.to, .int .i64 x33.sz]) s48 rfl kk rfl rfl kk kk x47 kk kk (by simp) kk kk (.inr (Nl (s32).size (Nat.le_of_eq hb45))) (fun w53 g54 x55 s56 => ?_)
   have ho57 := own_grown ho52 g54 (fun j e1 e2 => by cases e2; exact nb51 e1.symm)
   apply F.es
   have x6 := Sk s56 x6 onn
   have c58 := (Sb c30 s56 nkk)
   apply h15
   refine wk fun K16 h16 => ?_
   refine W.region_plain (row := none) [(0, false), (1, false), (2, false), (3, false), (4, true), (5, false), (6, false)] kk ?_
   have s59 := SG.self w53 none
   refine Fq (.pointer (some ⟨b43, 1, none⟩)) (r_field (k := 1) rfl ek kk) ?_
   refine Fl (.int .i64 x33.fr) (sgS (blk_cell (j := 1) x55 kk) onn) ?_
   refine Fq (.pointer (some ⟨b43, 2, none⟩)) (r_field (k := 2) rfl ek kk) ?_
   refine Fl (.int .i64 x33.to) (sgS (blk_cell (j := 2) x55 kk) onn) ?_
   refine W.sn (fun b => .slice (some ⟨b, 0, none⟩) 2 2) #[.int .i64 x33.fr, .int .i64 x33.to] 3 s59 rfl kk rfl (fun _ => by kernel_rfl) (fun b60 w61 hb62 k63 x64 s65 => ?_)
   apply F.nx
   have lo66 : w.heap.size ≤ b60 := Nl ((Sb c58 s59 nkk)).size (Nat.le_of_eq hb62)
   have nb69 : Nb b60 (.slice (some ⟨b11, 0, none⟩) 19 19) := nb_hi ho57 (Nat.le_of_eq hb62)
   have ho70 := own_kept ho57 k63
   refine Fq (.int .i64 2) (r_len (A := (some ⟨b60, 0, none⟩)) (n := 2) (c := 2) rfl ek kk) ?_
   refine Fv (.int .i64 0) ?_
   apply F.es
   have x6 := Sk s65 x6 onn
   have x55 := Sk s65 x55 onn
   have c71 := (Sb c58 s65 nkk)
   apply h16
   refine wp_block ?_
   have ho72 := own_blk (base := w.heap.size) (size := 1) (n := 2) x64 lo66 rfl (by omega)
   replace ho72 : World.ownsRow _ _ _ _ _ _ (intsV [x33.fr, x33.to]) := ho72
   have nr73 : NbR (.slice (some ⟨b60, 0, none⟩) 2 2) (.slice (some ⟨b11, 0, none⟩) 19 19) := nbr_new nb69
   have rd77 := own_rd ho72
   have hl78 := rd_ints_len rd77
   refine loopK (fun am2 aa2 wl2 => ∃ (k : Nat) (cs : List Bool) (mo3 : Bool) , Kn aa2 [(0, .agg #[.int .i64 m, .slice A n c]), (1, .int .i64 (s : Int)), (2, .func (.func g) #[] lb), (3, .pointer (some ⟨b2, 0, none⟩)), (7, .pointer (some ⟨b11, 0, none⟩)), (8, .bool mo3), (9, .int .i64 (i : Int)), (10, .pointer (some ⟨b43, 0, none⟩)), (19, .bool true), (21, .slice A n c), (22, .int .i64 (n : Int)), (23, .int .i64 (i : Int)), (24, .bool true), (32, .slice (some ⟨b60, 0, none⟩) 2 2), (33, .int .i64 2), (34, .int .i64 (k : Int))] 68 ∧ (am2 = 2 - k) ∧ (k ≤ 2) ∧ (FndE (linked ps q) (s : Int) (inL cs)) ∧ (cs.length = 19) ∧ (mo3 = true → offs cs < offs bs0) ∧ (mo3 = false → cs = bs0 ∧ shutE ps q (inL cs) i ∧ (1 ≤ k → okP q (inL cs) i x33 x33.fr) ∧ (2 ≤ k → okP q (inL cs) i x33 x33.to)) ∧ (wl2.heap[b2]? = some (.cells #[.int .i64 m, .slice A n c] 26 (0, 0))) ∧ (wl2.heap[b43]? = some (.cells #[.int .i64 x33.id, .int .i64 x33.fr, .int .i64 x33.to, .int .i64 x33.sz] 51 (0, 0))) ∧ (wl2.ownsRow w.heap.size 111 1 (.slice (some ⟨b11, 0, none⟩) 19 19) 19 (boolsV cs)) ∧ (Rd wl2 1 (some ⟨b60, 0, none⟩) 2 (intsV ([x33.fr, x33.to]))) ∧ (Below w.heap.size w wl2)) (2 - 0) ?_ ?_
   ·exact ⟨0, bs, mo2, Kn.of, rfl, (Nat.zero_le _), hf2, hlen2, hmt2, (fun e => ⟨(hmf2 e).1, (hmf2 e).2, fun h => absurd h (by omega), fun h => absurd h (by omega)⟩), x6, x55, ho70, rd77, c71⟩
   rintro am2 aa2 wl2 K17 h17 ⟨k, cs, mo3, ⟨U2, rfl⟩, rfl, hk, hf3, hlen3, hmt3, hmf3, x6, x55, ho2_7, rd2_32, c79⟩
   refine wk fun K18 h18 => ?_
   refine Rq 1 ?_
   by_cases q80 : ((k : Int) : Int) < (2 : Int)
   ·refine Fq (.bool true) (r_lss (m := (k : Int)) (n := 2) rfl ek ek (dt q80)) ?_
    apply F.es
    apply h18
    refine wk fun K19 h19 => ?_
    refine wp_cond_true ek ?_
    apply wp_skip
    apply h19
    refine wk fun K20 h20 => ?_
    refine wp_block ?_
    refine wk fun K21 h21 => ?_
    refine Rq 3 ?_
    obtain ⟨x81, hx82⟩ := get_of (zs := [x33.fr, x33.to]) (k := k) (by have := hl78; omega)
    have hy2 := two_of hx82
    have hpx := hp x33 (List.mem_of_getElem? hx34)
    obtain ⟨b83, o84, hA85, hb86, hc87⟩ := Rd.elInt rd2_32 hx82
    refine Fq (.pointer (some ⟨b83, o84 + k, none⟩)) (r_idx1 (n := 2) (c := 2) (k := k) rfl ek hA85 kk kk (by have := hl78; omega)) ?_
    refine Fl (.int .i64 x81) (eqS hc87) ?_
    refine Fa (.int .i64 x81) ?_
    apply F.es
    apply h21
    refine wk fun K22 h22 => ?_
    refine W.region_sch (row := none) (Sch.of [(0, false), (1, false), (2, false), (3, false), (4, false), (5, false), (6, false), (8, false), (7, true), (9, false), (10, false), (11, false), (12, false), (13, false), (14, false), (15, false), (16, true), (17, false)]) kk kk (fun _ d _ _ _ h => by cases d <;> exact h) kk (fun w88 e89 s90 => ?_)
    have ho91 := own_heap ho2_7 e89
    refine Fv (.pointer (some ⟨b11, 0, none⟩)) ?_
    refine Fv (.int .i64 x81) ?_
    refine Fq (.pointer (some ⟨b11, 0, none⟩)) (r_nilCheck rfl ek) ?_
    refine Fq (.pointer (some ⟨b11, x81.toNat, none⟩)) (r_idxA (len := 19) (k := x81.toNat) rfl ek (evk (z := x81) kk (by omega)) kk (by omega)) ?_
    obtain ⟨x92, hx93⟩ := get_of (zs := cs) (k := x81.toNat) (by have h9 := own_len ho91; rw [bools_len] at h9; omega)
    refine Fl (.bool x92) (sgS (own_atB ho2_7 hx93) (by simp)) ?_
    refine Fv (.pointer (some ⟨b11, 0, none⟩)) ?_
    refine Fv (.int .i64 (i : Int)) ?_
    refine Fq (.pointer (some ⟨b11, 0, none⟩)) (r_nilCheck rfl ek) ?_
    refine Fc [.int .i64 (i : Int)] (elementN_any i _ (by omega)) ?_
    rintro e w' ⟨rfl, rfl⟩
    refine ⟨_, rfl, s90, ?_⟩
    apply F.nx
    refine Fq (.pointer (some ⟨b11, 9 + i, none⟩)) (r_idxA (len := 19) (k := 9 + i) rfl ek kk kk (by omega)) ?_
    obtain ⟨x96, hx97⟩ := get_of (zs := cs) (k := 9 + i) (by have h9 := own_len ho91; rw [bools_len] at h9; omega)
    refine Fl (.bool x96) (sgS (own_atB ho2_7 hx97) (by simp)) ?_
    by_cases q98 : x92 = x96
    ·refine Fq (.bool false) (r_neqB (m := x92) (n := x96) rfl ek ek kk (by rw [(beq_iff_eq.2 q98)]; try rfl)) ?_
     refine Fv (.bool false) ?_
     refine Fs s90 ?_
     refine Fs s90 ?_
     refine Fs s90 ?_
     refine Fs s90 ?_
     refine Fq (.bool false) (r_pick (b := false) rfl ek ek) ?_
     apply F.es
     have x6 := Sk s90 x6 onn
     have x55 := Sk s90 x55 onn
     have c99 := (Sb c79 s90 nkk)
     have rd100 := Rk rd2_32 (SG.below s90)
     apply h22
     refine wp_cond_false ek ?_
     apply wp_skip
     apply h20
     refine Rq 2 ?_
     refine Fq (.int .i64 ((k + 1 : Nat) : Int)) (r_add (m := (k : Int)) (n := 1) (z := ((k + 1 : Nat) : Int)) rfl ek ek (by omega) (by omega)) ?_
     refine Fv (.int .i64 ((k + 1 : Nat) : Int)) ?_
     apply F.es
     exact h17 _ _ _ (by omega : (2 - (k + 1)) < _) ⟨k + 1, cs, mo3, Kn.of, rfl, (by omega), hf3, hlen3, hmt3, (fun e => ⟨(hmf3 e).1, (hmf3 e).2.1, two_next hy2 (hmf3 e).2.2.1 (okP_same (k := x81.toNat) (by omega) hx93 hx97 q98)⟩), x6, x55, ho91, rd100, c99⟩
    refine Fq (.bool true) (r_neqB (m := x92) (n := x96) rfl ek ek kk (by rw [(beq_eq_false_iff_ne.2 q98)]; try rfl)) ?_
    refine Fv (.bool true) ?_
    refine Fv (.func (.func g) #[] lb) ?_
    refine Fq (.agg #[.int .i64 x33.id, .int .i64 x33.fr, .int .i64 x33.to, .int .i64 x33.sz]) (r_load4 rfl ek kk kk (sgS (blk_cell (j := 0) x55 kk) onn) (sgS (blk_cell (j := 1) x55 kk) onn) (sgS (blk_cell (j := 2) x55 kk) onn) (sgS (blk_cell (j := 3) x55 kk) onn)) ?_
    refine Fv (.int .i64 x81) ?_
    refine W.scv (vs := [.agg #[.int .i64 x33.id, .int .i64 x33.fr, .int .i64 x33.to, .int .i64 x33.sz], .int .i64 x81]) (g := g) (lb := lb) rfl rfl kk kk he kk rfl (HG _ x33 x81 ((Sb c79 s90 nkk))) ?_
    rintro e w102 ⟨rfl, b101⟩
    have s103 := SG.of_below s90 b101
    refine ⟨_, rfl, s103, ?_⟩
    apply F.nx
    have ho104 := own_kept ho91 b101
    rcases Bool.eq_false_or_eq_true (q x33 x81) with q105 | q105
    ·rw [q105]
     refine Fq (.bool true) (r_pick (b := true) rfl ek ek) ?_
     apply F.es
     have x6 := Sk s103 x6 onn
     have x55 := Sk s103 x55 onn
     have c106 := (Sb c79 s103 nkk)
     have rd107 := Rk rd2_32 (SG.below s103)
     apply h22
     refine wp_cond_true ek ?_
     refine W.region_sch (row := (Value.ownBlock (.slice (some ⟨b11, 0, none⟩) 19 19))) (Sch.of [(0, false), (1, false), (2, false), (3, false), (5, false), (8, false), (4, true), (6, false), (7, true), (9, false), (10, true), (11, false)]) kk kk (fun _ d _ _ _ h => by cases d <;> exact h) kk (fun w108 e109 s110 => ?_)
     have ho111 := own_heap ho104 e109
     refine Fv (.pointer (some ⟨b11, 0, none⟩)) ?_
     refine Fv (.int .i64 x81) ?_
     refine Fv (.pointer (some ⟨b11, 0, none⟩)) ?_
     refine Fv (.int .i64 (i : Int)) ?_
     refine Fq (.pointer (some ⟨b11, 0, none⟩)) (r_nilCheck rfl ek) ?_
     refine Fq (.pointer (some ⟨b11, 0, none⟩)) (r_nilCheck rfl ek) ?_
     refine Fc [.int .i64 (i : Int)] (elementN_any i _ (by omega)) ?_
     rintro e w' ⟨rfl, rfl⟩
     refine ⟨_, rfl, s110, ?_⟩
     apply F.nx
     refine Fq (.pointer (some ⟨b11, x81.toNat, none⟩)) (r_idxA (len := 19) (k := x81.toNat) rfl ek (evk (z := x81) kk (by omega)) kk (by omega)) ?_
     refine W.ssr (base := w.heap.size) (e := 111) (j := x81.toNat) (u := .bool true) s110 rfl kk rfl rfl kk kk ho111 kk kk kk (by omega) (.inl rfl) (fun w114 ho115 g116 s117 => ?_)
     have ho115 := own_setB ho115
     refine Fq (.pointer (some ⟨b11, 9 + i, none⟩)) (r_idxA (len := 19) (k := 9 + i) rfl ek kk kk (by omega)) ?_
     refine W.ssr (base := w.heap.size) (e := 111) (j := 9 + i) (u := .bool true) s117 rfl kk rfl rfl kk kk ho115 kk kk kk (by omega) (.inl rfl) (fun w118 ho119 g120 s121 => ?_)
     have ho119 := own_setB ho119
     refine Fa (.bool true) ?_
     apply F.es
     have x6 := Sk s121 x6 nb20
     have x55 := Sk s121 x55 nb51
     have c122 := (Sb c106 s121 (fun kq e => (World.ownsRow.lt ho104 kq e).1))
     have rd123 := rd_nbr rd107 s121 nr73
     apply h20
     refine Rq 2 ?_
     refine Fq (.int .i64 ((k + 1 : Nat) : Int)) (r_add (m := (k : Int)) (n := 1) (z := ((k + 1 : Nat) : Int)) rfl ek ek (by omega) (by omega)) ?_
     refine Fv (.int .i64 ((k + 1 : Nat) : Int)) ?_
     apply F.es
     exact h17 _ _ _ (by omega : (2 - (k + 1)) < _) ⟨k + 1, ((cs.set x81.toNat true).set (9 + i) true), true, Kn.of, rfl, (by omega), (FndE.mark hf3 hx34 (by omega) q105 (by omega) (by omega) hx93 hx97 q98), (by simp [hlen3]), (fun _ => by have h9 := offs_two hx93 hx97 q98; rcases Bool.eq_false_or_eq_true mo3 with e | e <;> first | (have h8 := hmt3 e; omega) | (have h8 := (hmf3 e).1; rw [h8] at h9; rw [h8]; exact h9)), (fun e => by cases e), x6, x55, ho119, rd123, c122⟩
    rw [q105]
    refine Fq (.bool false) (r_pick (b := true) rfl ek ek) ?_
    apply F.es
    have x6 := Sk s103 x6 onn
    have x55 := Sk s103 x55 onn
    have c124 := (Sb c79 s103 nkk)
    have rd125 := Rk rd2_32 (SG.below s103)
    apply h22
    refine wp_cond_false ek ?_
    apply wp_skip
    apply h20
    refine Rq 2 ?_
    refine Fq (.int .i64 ((k + 1 : Nat) : Int)) (r_add (m := (k : Int)) (n := 1) (z := ((k + 1 : Nat) : Int)) rfl ek ek (by omega) (by omega)) ?_
    refine Fv (.int .i64 ((k + 1 : Nat) : Int)) ?_
    apply F.es
    exact h17 _ _ _ (by omega : (2 - (k + 1)) < _) ⟨k + 1, cs, mo3, Kn.of, rfl, (by omega), hf3, hlen3, hmt3, (fun e => ⟨(hmf3 e).1, (hmf3 e).2.1, two_next hy2 (hmf3 e).2.2.1 (okP_shut q105)⟩), x6, x55, ho104, rd125, c124⟩
   refine Fq (.bool false) (r_lss (m := (k : Int)) (n := 2) rfl ek ek (df q80)) ?_
   apply F.es
   apply h18
   refine wk fun K23 h23 => ?_
   refine wp_cond_false ek ?_
   refine wp_exit ?_
   apply h14
   refine Rq 2 ?_
   refine Fq (.int .i64 ((i + 1 : Nat) : Int)) (r_add (m := (i : Int)) (n := 1) (z := ((i + 1 : Nat) : Int)) rfl ek ek (by omega) (by omega)) ?_
   refine Fv (.int .i64 ((i + 1 : Nat) : Int)) ?_
   apply F.es
   exact h11 _ _ _ (by omega : (n - (i + 1)) < _) ⟨i + 1, cs, mo3, Kn.of, rfl, (by omega), hf3, hlen3, hmt3, (fun e => ⟨(hmf3 e).1, (hmf3 e).2.1.next hx34 ((hmf3 e).2.2.1 (by omega)) ((hmf3 e).2.2.2 (by omega))⟩), x6, ho2_7, c79⟩
  refine Fq (.bool false) (r_lss (m := (i : Int)) (n := (n : Int)) rfl ek ek (df q31)) ?_
  apply F.es
  apply h12
  refine wk fun K24 h24 => ?_
  refine wp_cond_false ek ?_
  refine wp_exit ?_
  exact h6 _ _ _ (by rcases Bool.eq_false_or_eq_true mo2 with e | e <;> rw [e] <;> simp only [Bool.toNat_true, Bool.toNat_false, qmo] <;> first | (have h9 := hmt2 e; omega) | (rw [(hmf2 e).1]; omega) : (2 * offs bs + mo2.toNat) < _) ⟨bs, mo2, Kn.of, rfl, hf2, hlen2, (fun e => by have h9 := (hmf2 e).2; rw [show i = ps.length by omega] at h9; exact h9), x6, ho1_7, c30⟩
 rw [q29]
 have qmo := q29
 refine wp_cond_false ek ?_
 refine wp_exit ?_
 apply h4
 refine wk fun K25 h25 => ?_
 refine Rq 2 ?_
 refine Fv (.pointer (some ⟨b11, 0, none⟩)) ?_
 refine Fa (.pointer (some ⟨b11, 0, none⟩)) ?_
 apply F.es
 apply h25
 refine wp_ret ?_
 try simp only [Exit.then]
 refine ret1 (v := .pointer (some ⟨b11, 0, none⟩)) rfl kk ?_
 have e9 := wetL_of hlen (FndE.fin hf (hsh qmo))
 exact ⟨_, rfl, (World.ownsRow.lt ho0_7 _ (by simp [Value.ownBlock])).1, (by rw [← e9]; exact own_rd ho0_7), c28⟩
set_option maxRecDepth 100000 in
set_option maxHeartbeats 8000000 in
theorem watered_any (m : Int) (A : Option Addr) (n c : Nat) (ps : List Pp) (A2 : Option Addr) (n2 c2 : Nat) (vs : List Vv) (a : Int) (s : Nat) (w : World) (ha : Rd w 4 A n (pipesV ps)) (hb : Rd w 4 A2 n2 (valvesV vs)) (hn : n ≤ 1048576) (hn2 : n2 ≤ 1048576) (hp : pipesIn ps m.toNat) (hm : 1 ≤ m ∧ m ≤ 8) (hlen10 : ps.length ≤ 10) (hu : uniqV vs) (hs : s < 19) (has : a = (s : Int)) :
    Calls Try.prog 88 #[.agg #[.int .i64 m, .slice A n c], .slice A2 n2 c2, .int .i64 a] w fun e w' => ∃ b, e = .returned (.pointer (some ⟨b, 0, none⟩)) ∧ w.heap.size ≤ b ∧ Rd w' 1 (some ⟨b, 0, none⟩) 19 (boolsV (wetL (linked ps (openQ vs true)) a)) ∧ Below w.heap.size w w' := by
 have hl := rd_pipes_len ha
 have hl2 := rd_valves_len hb
 go_enter Try.func88, Try.ntmps88
 refine F.begin 11 [(0, .agg #[.int .i64 m, .slice A n c]), (1, .slice A2 n2 c2), (2, .int .i64 a)] (fun U0 => ?_)
 refine wk fun K1 h1 => ?_
 refine W.region_plain (row := none) [(0, true), (1, true), (2, false)] kk ?_
 have s1 := SG.self w none
 refine W.sn (fun b => .pointer (some ⟨b, 0, none⟩)) #[.int .i64 m, .slice A n c] 26 s1 rfl kk rfl (fun _ => by kernel_rfl) (fun b2 w3 hb4 k5 x6 s7 => ?_)
 apply F.nx
 have lo8 : w.heap.size ≤ b2 := Nl ((Sb (Below.refl _ _) s1 nkk)).size (Nat.le_of_eq hb4)
 refine W.sn (fun b => .pointer (some ⟨b, 0, none⟩)) #[.slice A2 n2 c2] 27 s7 rfl kk rfl (fun _ => by kernel_rfl) (fun b9 w10 hb11 k12 x13 s14 => ?_)
 apply F.nx
 have lo15 : w.heap.size ≤ b9 := Nl ((Sb (Below.refl _ _) s7 nkk)).size (Nat.le_of_eq hb11)
 have x6 := (k12.block _ (blk_lt x6)).trans x6
 refine Fa (.pointer none) ?_
 apply F.es
 have c17 := (Sb (Below.refl _ _) s14 nkk)
 apply h1
 refine wk fun K2 h2 => ?_
 refine W.region_plain (row := none) [(0, false), (1, false), (2, false), (3, true), (4, false)] kk ?_
 have s18 := SG.self w10 none
 refine Fq (.agg #[.int .i64 m, .slice A n c]) (r_load2 rfl ek kk kk (sgS (blk_cell (j := 0) x6 kk) onn) (sgS (blk_cell (j := 1) x6 kk) onn)) ?_
 refine Fv (.int .i64 a) ?_
 refine Fq (.func (.func 136) #[] #[.pointer (some ⟨b9, 0, none⟩)]) (r_makeFunc (vs := [.pointer (some ⟨b9, 0, none⟩)]) rfl kk) ?_
 refine Fc [.agg #[.int .i64 m, .slice A n c], .int .i64 a, .func (.func 136) #[] #[.pointer (some ⟨b9, 0, none⟩)]] (reached_any m A n c ps a s 136 #[.pointer (some ⟨b9, 0, none⟩)] (openQ vs true) _ (Rk ha (Sb c17 s18 nkk)) (by omega) hp hm hlen10 hs has kk (fun W p v hW => watF_any p v b9 A2 n2 c2 vs W ((hW.block _ (blk_lt x13)).trans x13) (Rk (Rk hb (Sb c17 s18 nkk)) hW) (by omega) hu)) ?_
 rintro e w25 ⟨pb19, rfl, lo23, rd20, b24⟩
 have s26 := SG.of_below s18 b24
 refine ⟨_, rfl, s26, ?_⟩
 apply F.nx
 have hl21 := rd_bools_len rd20
 refine Fa (.pointer (some ⟨pb19, 0, none⟩)) ?_
 apply F.es
 have c27 := (Sb c17 s26 nkk)
 apply h2
 refine wp_ret ?_
 try simp only [Exit.then]
 refine ret1 (v := .pointer (some ⟨pb19, 0, none⟩)) rfl kk ?_
 exact ⟨_, rfl, (by have := ((Sb c17 s18 nkk)).size; omega), rd20, c27⟩
end Go.Proofs.Ytdbgfejeleafgaa
namespace Go.Proofs.Ytdbgfejeleafgaa
open Go.RowKit
set_option linter.unusedVariables false
theorem findL_lt (ps : List Pp) (v : Int) : -1 ≤ findL ps v ∧ findL ps v < (ps.length : Int) := by
  induction ps with
  | nil => unfold findL; simp
  | cons p ps ih => unfold findL; rw [List.length_cons]; split <;> (try split) <;> omega
theorem above_zero {vs : List Vv} {v : Vv} : above vs 0 v = true := rfl
theorem above_next {vs : List Vv} {k : Nat} {u v : Vv} (h : vs[k]? = some u) : above vs (k + 1) v = decide (u.id < v.id) := by unfold above; rw [if_neg (by omega), Nat.add_sub_cancel, h]
theorem endAt_pos {ps : List Pp} {k v : Int} (h : endAt ps k v = true) : 0 ≤ k ∧ ∃ p, ps[k.toNat]? = some p ∧ (p.fr = v ∨ p.to = v) := by
  unfold endAt at h
  split at h
  · rename_i h0
    split at h
    · rename_i p hp; exact ⟨h0, p, hp, by simpa using h⟩
    · cases h
  · cases h
theorem endAt_of {ps : List Pp} {k v : Int} {p : Pp} (h0 : 0 ≤ k) (hp : ps[k.toNat]? = some p) (h : p.fr = v ∨ p.to = v) : endAt ps k v = true := by
  unfold endAt; rw [if_pos h0, hp]; simpa using h
theorem placed_yes {vs : List Vv} {j k : Nat} {z : Vv} {a b : Int} (hz : vs[j]? = some z) (hj : j < k) (h1 : z.pipe = a) (h2 : z.node = b) : placed (vs.take k) a b = true := by
  unfold placed
  exact List.any_eq_true.2 ⟨z, List.mem_of_getElem? (by rw [List.getElem?_take_of_lt hj]; exact hz), by simp [h1, h2]⟩
theorem placed_no {vs : List Vv} {j k : Nat} {a b : Int} (h : ∀ i z, i < j → vs[i]? = some z → ¬ (z.pipe = a ∧ z.node = b)) (hk : k ≤ j) : placed (vs.take k) a b = false := by
  unfold placed
  refine List.any_eq_false.2 (fun z hz => ?_)
  obtain ⟨i, hi, e⟩ := List.getElem_of_mem hz
  rw [List.length_take] at hi
  rw [List.getElem_take] at e
  have := h i z (by omega) (by rw [List.getElem?_eq_getElem (by omega), e])
  simpa using this
end Go.Proofs.Ytdbgfejeleafgaa
namespace Go.Proofs.Ytdbgfejeleafgaa
open Go.RowKit
set_option linter.unusedVariables false
set_option linter.unusedSimpArgs false
set_option maxRecDepth 100000 in
set_option maxHeartbeats 8000000 in
theorem l4Good_any (m : Int) (A : Option Addr) (n c : Nat) (ps : List Pp) (A2 : Option Addr) (n2 c2 : Nat) (vs : List Vv) (w : World) (ha : Rd w 4 A n (pipesV ps)) (hb : Rd w 4 A2 n2 (valvesV vs)) (hn : n ≤ 1048576) (hn2 : n2 ≤ 1048576) :
    Calls Try.prog 76 #[.agg #[.int .i64 m, .slice A n c], .slice A2 n2 c2] w fun e w' => e = .returned (.bool (goodV m ps vs)) ∧ Below w.heap.size w w' := by
 have hl := rd_pipes_len ha
 have hl2 := rd_valves_len hb
 go_enter Try.func76, Try.ntmps76
 refine F.begin 99 [(0, .agg #[.int .i64 m, .slice A n c]), (1, .slice A2 n2 c2)] (fun U0 => ?_)
 refine wk fun K1 h1 => ?_
 refine W.region_plain (row := none) [(0, true), (1, false)] kk ?_
 have s1 := SG.self w none
 refine W.sn (fun b => .pointer (some ⟨b, 0, none⟩)) #[.int .i64 m, .slice A n c] 26 s1 rfl kk rfl (fun _ => by kernel_rfl) (fun b2 w3 hb4 k5 x6 s7 => ?_)
 apply F.nx
 have lo8 : w.heap.size ≤ b2 := Nl ((Sb (Below.refl _ _) s1 nkk)).size (Nat.le_of_eq hb4)
 refine Fa (.bool false) ?_
 apply F.es
 have c9 := (Sb (Below.refl _ _) s7 nkk)
 apply h1
 refine wk fun K2 h2 => ?_
 refine wk fun K3 h3 => ?_
 refine W.region_plain (row := none) [(0, false), (1, true), (2, false), (3, false), (4, false), (5, false), (6, false), (7, false)] kk ?_
 have s10 := SG.self w3 none
 refine Fq (.agg #[.int .i64 m, .slice A n c]) (r_load2 rfl ek kk kk (sgS (blk_cell (j := 0) x6 kk) onn) (sgS (blk_cell (j := 1) x6 kk) onn)) ?_
 refine Fc [.agg #[.int .i64 m, .slice A n c]] (l2Good_any m A n c ps _ (Rk ha (Sb c9 s10 nkk)) (by omega)) ?_
 rintro e w12 ⟨rfl, b11⟩
 have s13 := SG.of_below s10 b11
 refine ⟨_, rfl, s13, ?_⟩
 apply F.nx
 rcases Bool.eq_false_or_eq_true (goodN m ps) with q14 | q14
 ·rw [q14]
  refine Fq (.bool false) (r_not (b := true) rfl ek rfl) ?_
  refine Fv (.bool false) ?_
  refine Fv (.slice A2 n2 c2) ?_
  refine Fq (.int .i64 (n2 : Int)) (r_len (A := A2) (n := n2) (c := c2) rfl ek kk) ?_
  by_cases q15 : ((n2 : Int) : Int) > (10 : Int)
  ·refine Fq (.bool true) (r_gtr (m := (n2 : Int)) (n := 10) rfl ek ek (dt q15)) ?_
   refine Fq (.bool true) (r_pick (b := false) rfl ek ek) ?_
   apply F.es
   have x6 := Sk s13 x6 onn
   have c16 := (Sb c9 s13 nkk)
   apply h3
   refine wp_cond_true ek ?_
   refine wk fun K4 h4 => ?_
   refine Rq 1 ?_
   refine Fa (.bool false) ?_
   apply F.es
   apply h4
   refine wp_ret ?_
   try simp only [Exit.then]
   refine ret1 (v := .bool false) rfl kk ?_
   exact ⟨ret_bool (goodV_out (.inr (by omega))).symm, c16⟩
  refine Fq (.bool false) (r_gtr (m := (n2 : Int)) (n := 10) rfl ek ek (df q15)) ?_
  refine Fq (.bool false) (r_pick (b := false) rfl ek ek) ?_
  apply F.es
  have x6 := Sk s13 x6 onn
  have c17 := (Sb c9 s13 nkk)
  apply h3
  refine wp_cond_false ek ?_
  apply wp_skip
  apply h2
  refine wk fun K5 h5 => ?_
  refine wk fun K6 h6 => ?_
  refine Rq 1 ?_
  refine Fa (.int .i64 0) ?_
  apply F.es
  apply h6
  refine wp_block ?_
  refine loopK (fun am0 aa0 wl0 => ∃ (K : Nat) , Kn aa0 [(0, .agg #[.int .i64 m, .slice A n c]), (1, .slice A2 n2 c2), (2, .pointer (some ⟨b2, 0, none⟩)), (4, .bool false), (5, .int .i64 (K : Int)), (16, .bool false)] 99 ∧ (am0 = n2 - K) ∧ (K ≤ n2) ∧ (okVTo ps vs K = true) ∧ (wl0.heap[b2]? = some (.cells #[.int .i64 m, .slice A n c] 26 (0, 0))) ∧ (Below w.heap.size w wl0)) (n2 - 0) ?_ ?_
  ·exact ⟨0, Kn.of, rfl, (Nat.zero_le _), rfl, x6, c17⟩
  rintro am0 aa0 wl0 K7 h7 ⟨K, ⟨U0, rfl⟩, rfl, hk, hok, x6, c18⟩
  refine wk fun K8 h8 => ?_
  refine wk fun K9 h9 => ?_
  refine Rq 4 ?_
  refine Fv (.int .i64 (K : Int)) ?_
  refine Fv (.slice A2 n2 c2) ?_
  refine Fq (.int .i64 (n2 : Int)) (r_len (A := A2) (n := n2) (c := c2) rfl ek kk) ?_
  by_cases q19 : ((K : Int) : Int) < ((n2 : Int) : Int)
  ·refine Fq (.bool true) (r_lss (m := (K : Int)) (n := (n2 : Int)) rfl ek ek (dt q19)) ?_
   apply F.es
   apply h9
   refine wp_cond_true ek ?_
   apply wp_skip
   apply h8
   refine wk fun K10 h10 => ?_
   refine wp_block ?_
   refine wk fun K11 h11 => ?_
   refine W.region_plain (row := none) [(0, false), (1, false), (2, false), (3, false), (4, true), (5, true)] kk ?_
   have s20 := SG.self wl0 none
   refine Fv (.slice A2 n2 c2) ?_
   refine Fv (.int .i64 (K : Int)) ?_
   obtain ⟨x21, hx22⟩ := get_of (zs := vs) (k := K) (by have := hl2; omega)
   obtain ⟨b23, o24, hA25, hb26, hc27, hc28, hc29, hc30⟩ := Rd.elValve hb hx22
   refine Fq (.pointer (some ⟨b23, o24 + K * 4, none⟩)) (r_idx (n := n2) (c := c2) (k := K) rfl ek hA25 kk kk (by have := hl2; omega)) ?_
   refine Fq (.agg #[.int .i64 x21.id, .int .i64 x21.pipe, .int .i64 x21.node, .bool x21.shut]) (r_load4 rfl ek kk kk (sgS (later c18 hc27) (by simp)) (sgS (later c18 hc28) (by simp)) (sgS (later c18 hc29) (by simp)) (sgS (later c18 hc30) (by simp))) ?_
   refine W.sn (fun b => .pointer (some ⟨b, 0, none⟩)) #[.int .i64 0, .int .i64 0, .int .i64 0, .bool false] 40 s20 rfl kk rfl (fun _ => by kernel_rfl) (fun b31 w32 hb33 k34 x35 s36 => ?_)
   apply F.nx
   have lo37 : w.heap.size ≤ b31 := Nl ((Sb c18 s20 nkk)).size (Nat.le_of_eq hb33)
   refine W.ss (v := .agg #[.int .i64 x21.id, .int .i64 x21.pipe, .int .i64 x21.node, .bool x21.shut]) (j := 0) (news := [.int .i64 x21.id, .int .i64 x21.pipe, .int .i64 x21.node, .bool x21.shut]) (cs' := #[.int .i64 x21.id, .int .i64 x21.pipe, .int .i64 x21.node, .bool x21.shut]) s36 rfl kk rfl rfl kk kk x35 kk kk (by simp) kk kk (.inr (Nl (s20).size (Nat.le_of_eq hb33))) (fun w39 g40 x41 s42 => ?_)
   apply F.es
   have x6 := Sk s42 x6 onn
   have c43 := (Sb c18 s42 nkk)
   apply h11
   refine wk fun K12 h12 => ?_
   refine W.region_plain (row := none) [(0, false), (1, false), (2, false), (3, true), (4, false)] kk ?_
   have s44 := SG.self w39 none
   refine Fq (.agg #[.int .i64 m, .slice A n c]) (r_load2 rfl ek kk kk (sgS (blk_cell (j := 0) x6 kk) onn) (sgS (blk_cell (j := 1) x6 kk) onn)) ?_
   refine Fq (.pointer (some ⟨b31, 1, none⟩)) (r_field (k := 1) rfl ek kk) ?_
   refine Fl (.int .i64 x21.pipe) (sgS (blk_cell (j := 1) x41 kk) onn) ?_
   refine Fc [.agg #[.int .i64 m, .slice A n c], .int .i64 x21.pipe] (l2Find_any m A n c ps x21.pipe _ (Rk ha (Sb c43 s44 nkk)) (by omega)) ?_
   rintro e w46 ⟨rfl, b45⟩
   have s47 := SG.of_below s44 b45
   refine ⟨_, rfl, s47, ?_⟩
   apply F.nx
   refine Fa (.int .i64 (findL ps x21.pipe)) ?_
   apply F.es
   have x6 := Sk s47 x6 onn
   have x41 := Sk s47 x41 onn
   have c48 := (Sb c43 s47 nkk)
   apply h12
   refine wk fun K13 h13 => ?_
   refine wk fun K14 h14 => ?_
   refine W.region_sch (row := none) (Sch.of [(0, false), (1, false), (2, true), (3, false), (4, false), (5, false), (6, false), (7, false), (8, false), (9, false), (10, false), (11, false), (12, false), (13, false), (14, false), (15, false), (16, false), (17, false), (18, false), (19, false), (20, false), (21, false), (22, false), (23, false), (24, false), (25, false), (26, false), (27, false), (28, false), (29, false), (30, false), (31, false), (32, false), (33, false), (34, false), (35, false), (36, false), (37, false), (38, false), (39, false), (40, false), (41, false), (42, false), (43, false), (44, false)]) kk kk (fun _ d _ _ _ h => by cases d <;> exact h) kk (fun w49 e50 s51 => ?_)
   refine Fq (.pointer (some ⟨b31, 0, none⟩)) (r_field0 rfl ek kk) ?_
   refine Fl (.int .i64 x21.id) (sgS (blk_cell (j := 0) x41 kk) onn) ?_
   refine Fc [.int .i64 x21.id, .int .i64 1, .int .i64 99] (l1In_any x21.id 1 99 _) ?_
   rintro e w' ⟨rfl, rfl⟩
   refine ⟨_, rfl, s51, ?_⟩
   apply F.nx
   rcases Bool.eq_false_or_eq_true (inB x21.id 1 99) with q54 | q54
   ·rw [q54]
    refine Fq (.bool false) (r_not (b := true) rfl ek rfl) ?_
    refine Fv (.bool false) ?_
    refine Fv (.int .i64 (K : Int)) ?_
    by_cases q55 : ((K : Int) : Int) > (0 : Int)
    ·obtain ⟨k, rfl⟩ : ∃ k, K = k + 1 := ⟨K - 1, by omega⟩
     refine Fq (.bool true) (r_gtr (m := (((k + 1) : Nat) : Int)) (n := 0) rfl ek ek (dt q55)) ?_
     refine Fv (.bool true) ?_
     refine Fv (.slice A2 n2 c2) ?_
     refine Fv (.int .i64 (((k + 1) : Nat) : Int)) ?_
     refine Fq (.int .i64 (k : Int)) (r_sub (m := (((k + 1) : Nat) : Int)) (n := 1) (z := (k : Int)) rfl ek ek (by omega) (by omega)) ?_
     obtain ⟨x56, hx57⟩ := get_of (zs := vs) (k := k) (by have := hl2; omega)
     obtain ⟨b58, o59, hA60, hb61, hc62, hc63, hc64, hc65⟩ := Rd.elValve hb hx57
     refine Fq (.pointer (some ⟨b58, o59 + k * 4, none⟩)) (r_idx (n := n2) (c := c2) (k := k) rfl ek hA60 kk kk (by have := hl2; omega)) ?_
     refine Fq (.pointer (some ⟨b58, o59 + k * 4, none⟩)) (r_field0 rfl ek kk) ?_
     refine Fl (.int .i64 x56.id) (sgS (later c48 hc62) (by simp)) ?_
     refine Fq (.pointer (some ⟨b31, 0, none⟩)) (r_field0 rfl ek kk) ?_
     refine Fl (.int .i64 x21.id) (sgS (blk_cell (j := 0) x41 kk) onn) ?_
     by_cases q66 : (x56.id : Int) ≥ (x21.id : Int)
     ·refine Fq (.bool true) (r_geq (m := x56.id) (n := x21.id) rfl ek ek (dt q66)) ?_
      refine Fq (.bool true) (r_pick (b := true) rfl ek ek) ?_
      refine Fq (.bool true) (r_pick (b := false) rfl ek ek) ?_
      refine Fv (.bool true) ?_
      refine Fs s51 ?_
      refine Fs s51 ?_
      refine Fq (.bool true) (r_pick (b := true) rfl ek ek) ?_
      refine Fv (.bool true) ?_
      refine Fs s51 ?_
      refine Fs s51 ?_
      refine Fs s51 ?_
      refine Fs s51 ?_
      refine Fs s51 ?_
      refine Fs s51 ?_
      refine Fs s51 ?_
      refine Fs s51 ?_
      refine Fs s51 ?_
      refine Fs s51 ?_
      refine Fs s51 ?_
      refine Fs s51 ?_
      refine Fs s51 ?_
      refine Fs s51 ?_
      refine Fs s51 ?_
      refine Fs s51 ?_
      refine Fs s51 ?_
      refine Fs s51 ?_
      refine Fs s51 ?_
      refine Fs s51 ?_
      refine Fq (.bool true) (r_pick (b := true) rfl ek ek) ?_
      apply F.es
      have x6 := Sk s51 x6 onn
      have x41 := Sk s51 x41 onn
      have c67 := (Sb c48 s51 nkk)
      apply h14
      refine wp_cond_true ek ?_
      refine wk fun K15 h15 => ?_
      refine Rq 1 ?_
      refine Fa (.bool false) ?_
      apply F.es
      apply h15
      refine wp_ret ?_
      try simp only [Exit.then, Exit.inBlock]
      refine ret1 (v := .bool false) rfl kk ?_
      have e8 : okV ps vs (k + 1) = false := Bool.eq_false_iff.2 (fun h9 => by
        have h8 := (okV_iff hx22).1 h9
        obtain ⟨⟨hA, hB⟩, hC, hD⟩ := h8
        obtain ⟨hC0, p9, hp9, hC1⟩ := endAt_pos hC
        have hB' := of_decide_eq_true ((above_next hx57).symm.trans hB)
        first | omega | (rw [inB_iff.2 hA] at q54; cases q54))
      exact ⟨ret_bool (goodV_bad (k := k + 1) (by omega) e8).symm, c67⟩
     refine Fq (.bool false) (r_geq (m := x56.id) (n := x21.id) rfl ek ek (df q66)) ?_
     refine Fq (.bool false) (r_pick (b := true) rfl ek ek) ?_
     refine Fq (.bool false) (r_pick (b := false) rfl ek ek) ?_
     refine Fv (.bool false) ?_
     refine Fv (.int .i64 (findL ps x21.pipe)) ?_
     by_cases q68 : (findL ps x21.pipe : Int) < (0 : Int)
     ·refine Fq (.bool true) (r_lss (m := findL ps x21.pipe) (n := 0) rfl ek ek (dt q68)) ?_
      refine Fq (.bool true) (r_pick (b := false) rfl ek ek) ?_
      refine Fv (.bool true) ?_
      refine Fs s51 ?_
      refine Fs s51 ?_
      refine Fs s51 ?_
      refine Fs s51 ?_
      refine Fs s51 ?_
      refine Fs s51 ?_
      refine Fs s51 ?_
      refine Fs s51 ?_
      refine Fs s51 ?_
      refine Fs s51 ?_
      refine Fs s51 ?_
      refine Fs s51 ?_
      refine Fs s51 ?_
      refine Fs s51 ?_
      refine Fs s51 ?_
      refine Fs s51 ?_
      refine Fs s51 ?_
      refine Fs s51 ?_
      refine Fs s51 ?_
      refine Fs s51 ?_
      refine Fq (.bool true) (r_pick (b := true) rfl ek ek) ?_
      apply F.es
      have x6 := Sk s51 x6 onn
      have x41 := Sk s51 x41 onn
      have c69 := (Sb c48 s51 nkk)
      apply h14
      refine wp_cond_true ek ?_
      refine wk fun K16 h16 => ?_
      refine Rq 1 ?_
      refine Fa (.bool false) ?_
      apply F.es
      apply h16
      refine wp_ret ?_
      try simp only [Exit.then, Exit.inBlock]
      refine ret1 (v := .bool false) rfl kk ?_
      have e8 : okV ps vs (k + 1) = false := Bool.eq_false_iff.2 (fun h9 => by
        have h8 := (okV_iff hx22).1 h9
        obtain ⟨⟨hA, hB⟩, hC, hD⟩ := h8
        obtain ⟨hC0, p9, hp9, hC1⟩ := endAt_pos hC
        have hB' := of_decide_eq_true ((above_next hx57).symm.trans hB)
        first | omega | (rw [inB_iff.2 hA] at q54; cases q54))
      exact ⟨ret_bool (goodV_bad (k := k + 1) (by omega) e8).symm, c69⟩
     refine Fq (.bool false) (r_lss (m := findL ps x21.pipe) (n := 0) rfl ek ek (df q68)) ?_
     refine Fq (.bool false) (r_pick (b := false) rfl ek ek) ?_
     refine Fv (.bool false) ?_
     refine Fq (.pointer (some ⟨b2, 1, none⟩)) (r_field (k := 1) rfl ek kk) ?_
     refine Fl (.slice A n c) (sgS (blk_cell (j := 1) x6 kk) onn) ?_
     refine Fv (.int .i64 (findL ps x21.pipe)) ?_
     have hfl := findL_lt ps x21.pipe
     obtain ⟨x70, hx71⟩ := get_of (zs := ps) (k := (findL ps x21.pipe).toNat) (by have := hl; omega)
     obtain ⟨b72, o73, hA74, hb75, hc76, hc77, hc78, hc79⟩ := Rd.elPipe ha hx71
     refine Fq (.pointer (some ⟨b72, o73 + ((findL ps x21.pipe).toNat) * 4, none⟩)) (r_idx (n := n) (c := c) (k := (findL ps x21.pipe).toNat) rfl ek hA74 (evk (z := findL ps x21.pipe) kk (by omega)) kk (by have := hl; omega)) ?_
     refine Fq (.pointer (some ⟨b72, o73 + ((findL ps x21.pipe).toNat) * 4 + 1, none⟩)) (r_field (k := 1) rfl ek kk) ?_
     refine Fl (.int .i64 x70.fr) (sgS (later c48 hc77) (by simp)) ?_
     refine Fq (.pointer (some ⟨b31, 2, none⟩)) (r_field (k := 2) rfl ek kk) ?_
     refine Fl (.int .i64 x21.node) (sgS (blk_cell (j := 2) x41 kk) onn) ?_
     by_cases q80 : (x70.fr : Int) ≠ (x21.node : Int)
     ·refine Fq (.bool true) (r_neq (m := x70.fr) (n := x21.node) rfl ek ek (dt q80)) ?_
      refine Fv (.bool true) ?_
      refine Fq (.pointer (some ⟨b2, 1, none⟩)) (r_field (k := 1) rfl ek kk) ?_
      refine Fl (.slice A n c) (sgS (blk_cell (j := 1) x6 kk) onn) ?_
      refine Fv (.int .i64 (findL ps x21.pipe)) ?_
      refine Fq (.pointer (some ⟨b72, o73 + ((findL ps x21.pipe).toNat) * 4, none⟩)) (r_idx (n := n) (c := c) (k := (findL ps x21.pipe).toNat) rfl ek hA74 (evk (z := findL ps x21.pipe) kk (by omega)) kk (by have := hl; omega)) ?_
      refine Fq (.pointer (some ⟨b72, o73 + ((findL ps x21.pipe).toNat) * 4 + 2, none⟩)) (r_field (k := 2) rfl ek kk) ?_
      refine Fl (.int .i64 x70.to) (sgS (later c48 hc78) (by simp)) ?_
      refine Fq (.pointer (some ⟨b31, 2, none⟩)) (r_field (k := 2) rfl ek kk) ?_
      refine Fl (.int .i64 x21.node) (sgS (blk_cell (j := 2) x41 kk) onn) ?_
      by_cases q81 : (x70.to : Int) ≠ (x21.node : Int)
      ·refine Fq (.bool true) (r_neq (m := x70.to) (n := x21.node) rfl ek ek (dt q81)) ?_
       refine Fq (.bool true) (r_pick (b := true) rfl ek ek) ?_
       refine Fq (.bool true) (r_pick (b := false) rfl ek ek) ?_
       apply F.es
       have x6 := Sk s51 x6 onn
       have x41 := Sk s51 x41 onn
       have c82 := (Sb c48 s51 nkk)
       apply h14
       refine wp_cond_true ek ?_
       refine wk fun K17 h17 => ?_
       refine Rq 1 ?_
       refine Fa (.bool false) ?_
       apply F.es
       apply h17
       refine wp_ret ?_
       try simp only [Exit.then, Exit.inBlock]
       refine ret1 (v := .bool false) rfl kk ?_
       have e8 : okV ps vs (k + 1) = false := Bool.eq_false_iff.2 (fun h9 => by
         have h8 := (okV_iff hx22).1 h9
         obtain ⟨⟨hA, hB⟩, hC, hD⟩ := h8
         obtain ⟨hC0, p9, hp9, hC1⟩ := endAt_pos hC
         have hB' := of_decide_eq_true ((above_next hx57).symm.trans hB)
         obtain rfl := Option.some.inj (hp9.symm.trans hx71)
         first | omega | (rw [inB_iff.2 hA] at q54; cases q54))
       exact ⟨ret_bool (goodV_bad (k := k + 1) (by omega) e8).symm, c82⟩
      refine Fq (.bool false) (r_neq (m := x70.to) (n := x21.node) rfl ek ek (df q81)) ?_
      refine Fq (.bool false) (r_pick (b := true) rfl ek ek) ?_
      refine Fq (.bool false) (r_pick (b := false) rfl ek ek) ?_
      apply F.es
      have x6 := Sk s51 x6 onn
      have x41 := Sk s51 x41 onn
      have c83 := (Sb c48 s51 nkk)
      apply h14
      refine wp_cond_false ek ?_
      apply wp_skip
      apply h13
      refine wk fun K18 h18 => ?_
      refine Rq 1 ?_
      refine Fa (.int .i64 0) ?_
      apply F.es
      apply h18
      refine wp_block ?_
      refine loopK (fun am1 aa1 wl1 => ∃ (j : Nat) , Kn aa1 [(0, .agg #[.int .i64 m, .slice A n c]), (1, .slice A2 n2 c2), (2, .pointer (some ⟨b2, 0, none⟩)), (4, .bool false), (5, .int .i64 (((k + 1) : Nat) : Int)), (6, .pointer (some ⟨b31, 0, none⟩)), (7, .int .i64 (findL ps x21.pipe)), (8, .int .i64 (j : Int)), (16, .bool false), (20, .bool true), (75, .bool false)] 99 ∧ (am1 = (k + 1) - j) ∧ (j ≤ k + 1) ∧ (∀ i z, i < j → vs[i]? = some z → ¬ (z.pipe = x21.pipe ∧ z.node = x21.node)) ∧ (wl1.heap[b2]? = some (.cells #[.int .i64 m, .slice A n c] 26 (0, 0))) ∧ (wl1.heap[b31]? = some (.cells #[.int .i64 x21.id, .int .i64 x21.pipe, .int .i64 x21.node, .bool x21.shut] 40 (0, 0))) ∧ (Below w.heap.size w wl1)) ((k + 1) - 0) ?_ ?_
      ·exact ⟨0, Kn.of, rfl, (Nat.zero_le _), (fun i z hi => absurd hi (by omega)), x6, x41, c83⟩
      rintro am1 aa1 wl1 K19 h19 ⟨j, ⟨U1, rfl⟩, rfl, hj, hno, x6, x41, c84⟩
      refine wk fun K20 h20 => ?_
      refine wk fun K21 h21 => ?_
      refine Rq 3 ?_
      refine Fv (.int .i64 (j : Int)) ?_
      refine Fv (.int .i64 (((k + 1) : Nat) : Int)) ?_
      by_cases q85 : ((j : Int) : Int) < ((((k + 1) : Nat) : Int) : Int)
      ·refine Fq (.bool true) (r_lss (m := (j : Int)) (n := (((k + 1) : Nat) : Int)) rfl ek ek (dt q85)) ?_
       apply F.es
       apply h21
       refine wp_cond_true ek ?_
       apply wp_skip
       apply h20
       refine wk fun K22 h22 => ?_
       refine wp_block ?_
       refine wk fun K23 h23 => ?_
       refine W.region_sch (row := none) (Sch.of [(0, false), (1, false), (2, false), (3, false), (4, false), (5, false), (6, false), (7, false), (8, false), (9, false), (10, false), (11, false), (12, false), (13, false), (14, false), (15, false), (16, false), (17, false)]) kk kk (fun _ d _ _ _ h => by cases d <;> exact h) kk (fun w86 e87 s88 => ?_)
       refine Fv (.slice A2 n2 c2) ?_
       refine Fv (.int .i64 (j : Int)) ?_
       obtain ⟨x89, hx90⟩ := get_of (zs := vs) (k := j) (by have := hl2; omega)
       obtain ⟨b91, o92, hA93, hb94, hc95, hc96, hc97, hc98⟩ := Rd.elValve hb hx90
       refine Fq (.pointer (some ⟨b91, o92 + j * 4, none⟩)) (r_idx (n := n2) (c := c2) (k := j) rfl ek hA93 kk kk (by have := hl2; omega)) ?_
       refine Fq (.pointer (some ⟨b91, o92 + j * 4 + 1, none⟩)) (r_field (k := 1) rfl ek kk) ?_
       refine Fl (.int .i64 x89.pipe) (sgS (later c84 hc96) (by simp)) ?_
       refine Fq (.pointer (some ⟨b31, 1, none⟩)) (r_field (k := 1) rfl ek kk) ?_
       refine Fl (.int .i64 x21.pipe) (sgS (blk_cell (j := 1) x41 kk) onn) ?_
       by_cases q99 : (x89.pipe : Int) = (x21.pipe : Int)
       ·refine Fq (.bool true) (r_eql (m := x89.pipe) (n := x21.pipe) rfl ek ek (dt q99)) ?_
        refine Fv (.bool true) ?_
        refine Fv (.slice A2 n2 c2) ?_
        refine Fv (.int .i64 (j : Int)) ?_
        refine Fq (.pointer (some ⟨b91, o92 + j * 4, none⟩)) (r_idx (n := n2) (c := c2) (k := j) rfl ek hA93 kk kk (by have := hl2; omega)) ?_
        refine Fq (.pointer (some ⟨b91, o92 + j * 4 + 2, none⟩)) (r_field (k := 2) rfl ek kk) ?_
        refine Fl (.int .i64 x89.node) (sgS (later c84 hc97) (by simp)) ?_
        refine Fq (.pointer (some ⟨b31, 2, none⟩)) (r_field (k := 2) rfl ek kk) ?_
        refine Fl (.int .i64 x21.node) (sgS (blk_cell (j := 2) x41 kk) onn) ?_
        by_cases q100 : (x89.node : Int) = (x21.node : Int)
        ·refine Fq (.bool true) (r_eql (m := x89.node) (n := x21.node) rfl ek ek (dt q100)) ?_
         refine Fq (.bool true) (r_pick (b := true) rfl ek ek) ?_
         apply F.es
         have x6 := Sk s88 x6 onn
         have x41 := Sk s88 x41 onn
         have c101 := (Sb c84 s88 nkk)
         apply h23
         refine wp_cond_true ek ?_
         refine wk fun K24 h24 => ?_
         refine Rq 1 ?_
         refine Fa (.bool false) ?_
         apply F.es
         apply h24
         refine wp_ret ?_
         try simp only [Exit.then, Exit.inBlock]
         refine ret1 (v := .bool false) rfl kk ?_
         have e8 : okV ps vs (k + 1) = false := Bool.eq_false_iff.2 (fun h9 => by
           have h8 := (okV_iff hx22).1 h9
           obtain ⟨⟨hA, hB⟩, hC, hD⟩ := h8
           obtain ⟨hC0, p9, hp9, hC1⟩ := endAt_pos hC
           have hB' := of_decide_eq_true ((above_next hx57).symm.trans hB)
           obtain rfl := Option.some.inj (hp9.symm.trans hx71)
           exact absurd (placed_yes (k := k + 1) (a := x21.pipe) (b := x21.node) hx90 (by omega) q99 q100) (by rw [hD]; simp))
         exact ⟨ret_bool (goodV_bad (k := k + 1) (by omega) e8).symm, c101⟩
        refine Fq (.bool false) (r_eql (m := x89.node) (n := x21.node) rfl ek ek (df q100)) ?_
        refine Fq (.bool false) (r_pick (b := true) rfl ek ek) ?_
        apply F.es
        have x6 := Sk s88 x6 onn
        have x41 := Sk s88 x41 onn
        have c102 := (Sb c84 s88 nkk)
        apply h23
        refine wp_cond_false ek ?_
        apply wp_skip
        apply h22
        refine Rq 3 ?_
        refine Fv (.int .i64 (j : Int)) ?_
        refine Fq (.int .i64 ((j + 1 : Nat) : Int)) (r_add (m := (j : Int)) (n := 1) (z := ((j + 1 : Nat) : Int)) rfl ek ek (by omega) (by omega)) ?_
        refine Fa (.int .i64 ((j + 1 : Nat) : Int)) ?_
        apply F.es
        exact h19 _ _ _ (by omega : ((k + 1) - (j + 1)) < _) ⟨j + 1, Kn.of, rfl, (by omega), (upto_succ (Q := fun z => ¬ (z.pipe = x21.pipe ∧ z.node = x21.node)) hno hx90 (by omega)), x6, x41, c102⟩
       refine Fq (.bool false) (r_eql (m := x89.pipe) (n := x21.pipe) rfl ek ek (df q99)) ?_
       refine Fv (.bool false) ?_
       refine Fs s88 ?_
       refine Fs s88 ?_
       refine Fs s88 ?_
       refine Fs s88 ?_
       refine Fs s88 ?_
       refine Fs s88 ?_
       refine Fs s88 ?_
       refine Fs s88 ?_
       refine Fq (.bool false) (r_pick (b := false) rfl ek ek) ?_
       apply F.es
       have x6 := Sk s88 x6 onn
       have x41 := Sk s88 x41 onn
       have c103 := (Sb c84 s88 nkk)
       apply h23
       refine wp_cond_false ek ?_
       apply wp_skip
       apply h22
       refine Rq 3 ?_
       refine Fv (.int .i64 (j : Int)) ?_
       refine Fq (.int .i64 ((j + 1 : Nat) : Int)) (r_add (m := (j : Int)) (n := 1) (z := ((j + 1 : Nat) : Int)) rfl ek ek (by omega) (by omega)) ?_
       refine Fa (.int .i64 ((j + 1 : Nat) : Int)) ?_
       apply F.es
       exact h19 _ _ _ (by omega : ((k + 1) - (j + 1)) < _) ⟨j + 1, Kn.of, rfl, (by omega), (upto_succ (Q := fun z => ¬ (z.pipe = x21.pipe ∧ z.node = x21.node)) hno hx90 (by omega)), x6, x41, c103⟩
      refine Fq (.bool false) (r_lss (m := (j : Int)) (n := (((k + 1) : Nat) : Int)) rfl ek ek (df q85)) ?_
      apply F.es
      apply h21
      refine wp_cond_false ek ?_
      refine wp_exit ?_
      apply h10
      refine Rq 3 ?_
      refine Fv (.int .i64 (((k + 1) : Nat) : Int)) ?_
      refine Fq (.int .i64 (((k + 1) + 1 : Nat) : Int)) (r_add (m := (((k + 1) : Nat) : Int)) (n := 1) (z := (((k + 1) + 1 : Nat) : Int)) rfl ek ek (by omega) (by omega)) ?_
      refine Fa (.int .i64 (((k + 1) + 1 : Nat) : Int)) ?_
      apply F.es
      exact h7 _ _ _ (by omega : (n2 - (k + 1 + 1)) < _) ⟨k + 1 + 1, Kn.of, rfl, (by omega), (okVTo_next hok ((okV_iff hx22).2 ⟨⟨inB_iff.1 q54, (by rw [above_next hx57]; exact decide_eq_true (by omega))⟩, endAt_of (by omega) hx71 (by omega), placed_no hno (by omega)⟩)), x6, c84⟩
     refine Fq (.bool false) (r_neq (m := x70.fr) (n := x21.node) rfl ek ek (df q80)) ?_
     refine Fv (.bool false) ?_
     refine Fs s51 ?_
     refine Fs s51 ?_
     refine Fs s51 ?_
     refine Fs s51 ?_
     refine Fs s51 ?_
     refine Fs s51 ?_
     refine Fs s51 ?_
     refine Fs s51 ?_
     refine Fs s51 ?_
     refine Fq (.bool false) (r_pick (b := false) rfl ek ek) ?_
     refine Fq (.bool false) (r_pick (b := false) rfl ek ek) ?_
     apply F.es
     have x6 := Sk s51 x6 onn
     have x41 := Sk s51 x41 onn
     have c104 := (Sb c48 s51 nkk)
     apply h14
     refine wp_cond_false ek ?_
     apply wp_skip
     apply h13
     refine wk fun K25 h25 => ?_
     refine Rq 1 ?_
     refine Fa (.int .i64 0) ?_
     apply F.es
     apply h25
     refine wp_block ?_
     refine loopK (fun am1 aa1 wl1 => ∃ (j : Nat) , Kn aa1 [(0, .agg #[.int .i64 m, .slice A n c]), (1, .slice A2 n2 c2), (2, .pointer (some ⟨b2, 0, none⟩)), (4, .bool false), (5, .int .i64 (((k + 1) : Nat) : Int)), (6, .pointer (some ⟨b31, 0, none⟩)), (7, .int .i64 (findL ps x21.pipe)), (8, .int .i64 (j : Int)), (16, .bool false), (20, .bool true), (75, .bool false)] 99 ∧ (am1 = (k + 1) - j) ∧ (j ≤ k + 1) ∧ (∀ i z, i < j → vs[i]? = some z → ¬ (z.pipe = x21.pipe ∧ z.node = x21.node)) ∧ (wl1.heap[b2]? = some (.cells #[.int .i64 m, .slice A n c] 26 (0, 0))) ∧ (wl1.heap[b31]? = some (.cells #[.int .i64 x21.id, .int .i64 x21.pipe, .int .i64 x21.node, .bool x21.shut] 40 (0, 0))) ∧ (Below w.heap.size w wl1)) ((k + 1) - 0) ?_ ?_
     ·exact ⟨0, Kn.of, rfl, (Nat.zero_le _), (fun i z hi => absurd hi (by omega)), x6, x41, c104⟩
     rintro am1 aa1 wl1 K26 h26 ⟨j, ⟨U1, rfl⟩, rfl, hj, hno, x6, x41, c105⟩
     refine wk fun K27 h27 => ?_
     refine wk fun K28 h28 => ?_
     refine Rq 3 ?_
     refine Fv (.int .i64 (j : Int)) ?_
     refine Fv (.int .i64 (((k + 1) : Nat) : Int)) ?_
     by_cases q106 : ((j : Int) : Int) < ((((k + 1) : Nat) : Int) : Int)
     ·refine Fq (.bool true) (r_lss (m := (j : Int)) (n := (((k + 1) : Nat) : Int)) rfl ek ek (dt q106)) ?_
      apply F.es
      apply h28
      refine wp_cond_true ek ?_
      apply wp_skip
      apply h27
      refine wk fun K29 h29 => ?_
      refine wp_block ?_
      refine wk fun K30 h30 => ?_
      refine W.region_sch (row := none) (Sch.of [(0, false), (1, false), (2, false), (3, false), (4, false), (5, false), (6, false), (7, false), (8, false), (9, false), (10, false), (11, false), (12, false), (13, false), (14, false), (15, false), (16, false), (17, false)]) kk kk (fun _ d _ _ _ h => by cases d <;> exact h) kk (fun w107 e108 s109 => ?_)
      refine Fv (.slice A2 n2 c2) ?_
      refine Fv (.int .i64 (j : Int)) ?_
      obtain ⟨x110, hx111⟩ := get_of (zs := vs) (k := j) (by have := hl2; omega)
      obtain ⟨b112, o113, hA114, hb115, hc116, hc117, hc118, hc119⟩ := Rd.elValve hb hx111
      refine Fq (.pointer (some ⟨b112, o113 + j * 4, none⟩)) (r_idx (n := n2) (c := c2) (k := j) rfl ek hA114 kk kk (by have := hl2; omega)) ?_
      refine Fq (.pointer (some ⟨b112, o113 + j * 4 + 1, none⟩)) (r_field (k := 1) rfl ek kk) ?_
      refine Fl (.int .i64 x110.pipe) (sgS (later c105 hc117) (by simp)) ?_
      refine Fq (.pointer (some ⟨b31, 1, none⟩)) (r_field (k := 1) rfl ek kk) ?_
      refine Fl (.int .i64 x21.pipe) (sgS (blk_cell (j := 1) x41 kk) onn) ?_
      by_cases q120 : (x110.pipe : Int) = (x21.pipe : Int)
      ·refine Fq (.bool true) (r_eql (m := x110.pipe) (n := x21.pipe) rfl ek ek (dt q120)) ?_
       refine Fv (.bool true) ?_
       refine Fv (.slice A2 n2 c2) ?_
       refine Fv (.int .i64 (j : Int)) ?_
       refine Fq (.pointer (some ⟨b112, o113 + j * 4, none⟩)) (r_idx (n := n2) (c := c2) (k := j) rfl ek hA114 kk kk (by have := hl2; omega)) ?_
       refine Fq (.pointer (some ⟨b112, o113 + j * 4 + 2, none⟩)) (r_field (k := 2) rfl ek kk) ?_
       refine Fl (.int .i64 x110.node) (sgS (later c105 hc118) (by simp)) ?_
       refine Fq (.pointer (some ⟨b31, 2, none⟩)) (r_field (k := 2) rfl ek kk) ?_
       refine Fl (.int .i64 x21.node) (sgS (blk_cell (j := 2) x41 kk) onn) ?_
       by_cases q121 : (x110.node : Int) = (x21.node : Int)
       ·refine Fq (.bool true) (r_eql (m := x110.node) (n := x21.node) rfl ek ek (dt q121)) ?_
        refine Fq (.bool true) (r_pick (b := true) rfl ek ek) ?_
        apply F.es
        have x6 := Sk s109 x6 onn
        have x41 := Sk s109 x41 onn
        have c122 := (Sb c105 s109 nkk)
        apply h30
        refine wp_cond_true ek ?_
        refine wk fun K31 h31 => ?_
        refine Rq 1 ?_
        refine Fa (.bool false) ?_
        apply F.es
        apply h31
        refine wp_ret ?_
        try simp only [Exit.then, Exit.inBlock]
        refine ret1 (v := .bool false) rfl kk ?_
        have e8 : okV ps vs (k + 1) = false := Bool.eq_false_iff.2 (fun h9 => by
          have h8 := (okV_iff hx22).1 h9
          obtain ⟨⟨hA, hB⟩, hC, hD⟩ := h8
          obtain ⟨hC0, p9, hp9, hC1⟩ := endAt_pos hC
          have hB' := of_decide_eq_true ((above_next hx57).symm.trans hB)
          obtain rfl := Option.some.inj (hp9.symm.trans hx71)
          exact absurd (placed_yes (k := k + 1) (a := x21.pipe) (b := x21.node) hx111 (by omega) q120 q121) (by rw [hD]; simp))
        exact ⟨ret_bool (goodV_bad (k := k + 1) (by omega) e8).symm, c122⟩
       refine Fq (.bool false) (r_eql (m := x110.node) (n := x21.node) rfl ek ek (df q121)) ?_
       refine Fq (.bool false) (r_pick (b := true) rfl ek ek) ?_
       apply F.es
       have x6 := Sk s109 x6 onn
       have x41 := Sk s109 x41 onn
       have c123 := (Sb c105 s109 nkk)
       apply h30
       refine wp_cond_false ek ?_
       apply wp_skip
       apply h29
       refine Rq 3 ?_
       refine Fv (.int .i64 (j : Int)) ?_
       refine Fq (.int .i64 ((j + 1 : Nat) : Int)) (r_add (m := (j : Int)) (n := 1) (z := ((j + 1 : Nat) : Int)) rfl ek ek (by omega) (by omega)) ?_
       refine Fa (.int .i64 ((j + 1 : Nat) : Int)) ?_
       apply F.es
       exact h26 _ _ _ (by omega : ((k + 1) - (j + 1)) < _) ⟨j + 1, Kn.of, rfl, (by omega), (upto_succ (Q := fun z => ¬ (z.pipe = x21.pipe ∧ z.node = x21.node)) hno hx111 (by omega)), x6, x41, c123⟩
      refine Fq (.bool false) (r_eql (m := x110.pipe) (n := x21.pipe) rfl ek ek (df q120)) ?_
      refine Fv (.bool false) ?_
      refine Fs s109 ?_
      refine Fs s109 ?_
      refine Fs s109 ?_
      refine Fs s109 ?_
      refine Fs s109 ?_
      refine Fs s109 ?_
      refine Fs s109 ?_
      refine Fs s109 ?_
      refine Fq (.bool false) (r_pick (b := false) rfl ek ek) ?_
      apply F.es
      have x6 := Sk s109 x6 onn
      have x41 := Sk s109 x41 onn
      have c124 := (Sb c105 s109 nkk)
      apply h30
      refine wp_cond_false ek ?_
      apply wp_skip
      apply h29
      refine Rq 3 ?_
      refine Fv (.int .i64 (j : Int)) ?_
      refine Fq (.int .i64 ((j + 1 : Nat) : Int)) (r_add (m := (j : Int)) (n := 1) (z := ((j + 1 : Nat) : Int)) rfl ek ek (by omega) (by omega)) ?_
      refine Fa (.int .i64 ((j + 1 : Nat) : Int)) ?_
      apply F.es
      exact h26 _ _ _ (by omega : ((k + 1) - (j + 1)) < _) ⟨j + 1, Kn.of, rfl, (by omega), (upto_succ (Q := fun z => ¬ (z.pipe = x21.pipe ∧ z.node = x21.node)) hno hx111 (by omega)), x6, x41, c124⟩
     refine Fq (.bool false) (r_lss (m := (j : Int)) (n := (((k + 1) : Nat) : Int)) rfl ek ek (df q106)) ?_
     apply F.es
     apply h28
     refine wp_cond_false ek ?_
     refine wp_exit ?_
     apply h10
     refine Rq 3 ?_
     refine Fv (.int .i64 (((k + 1) : Nat) : Int)) ?_
     refine Fq (.int .i64 (((k + 1) + 1 : Nat) : Int)) (r_add (m := (((k + 1) : Nat) : Int)) (n := 1) (z := (((k + 1) + 1 : Nat) : Int)) rfl ek ek (by omega) (by omega)) ?_
     refine Fa (.int .i64 (((k + 1) + 1 : Nat) : Int)) ?_
     apply F.es
     exact h7 _ _ _ (by omega : (n2 - (k + 1 + 1)) < _) ⟨k + 1 + 1, Kn.of, rfl, (by omega), (okVTo_next hok ((okV_iff hx22).2 ⟨⟨inB_iff.1 q54, (by rw [above_next hx57]; exact decide_eq_true (by omega))⟩, endAt_of (by omega) hx71 (by omega), placed_no hno (by omega)⟩)), x6, c105⟩
    refine Fq (.bool false) (r_gtr (m := (K : Int)) (n := 0) rfl ek ek (df q55)) ?_
    refine Fv (.bool false) ?_
    refine Fs s51 ?_
    refine Fs s51 ?_
    refine Fs s51 ?_
    refine Fs s51 ?_
    refine Fs s51 ?_
    refine Fs s51 ?_
    refine Fs s51 ?_
    refine Fs s51 ?_
    refine Fs s51 ?_
    refine Fq (.bool false) (r_pick (b := false) rfl ek ek) ?_
    refine Fq (.bool false) (r_pick (b := false) rfl ek ek) ?_
    refine Fv (.bool false) ?_
    refine Fv (.int .i64 (findL ps x21.pipe)) ?_
    by_cases q125 : (findL ps x21.pipe : Int) < (0 : Int)
    ·refine Fq (.bool true) (r_lss (m := findL ps x21.pipe) (n := 0) rfl ek ek (dt q125)) ?_
     refine Fq (.bool true) (r_pick (b := false) rfl ek ek) ?_
     refine Fv (.bool true) ?_
     refine Fs s51 ?_
     refine Fs s51 ?_
     refine Fs s51 ?_
     refine Fs s51 ?_
     refine Fs s51 ?_
     refine Fs s51 ?_
     refine Fs s51 ?_
     refine Fs s51 ?_
     refine Fs s51 ?_
     refine Fs s51 ?_
     refine Fs s51 ?_
     refine Fs s51 ?_
     refine Fs s51 ?_
     refine Fs s51 ?_
     refine Fs s51 ?_
     refine Fs s51 ?_
     refine Fs s51 ?_
     refine Fs s51 ?_
     refine Fs s51 ?_
     refine Fs s51 ?_
     refine Fq (.bool true) (r_pick (b := true) rfl ek ek) ?_
     apply F.es
     have x6 := Sk s51 x6 onn
     have x41 := Sk s51 x41 onn
     have c126 := (Sb c48 s51 nkk)
     apply h14
     refine wp_cond_true ek ?_
     refine wk fun K32 h32 => ?_
     refine Rq 1 ?_
     refine Fa (.bool false) ?_
     apply F.es
     apply h32
     refine wp_ret ?_
     try simp only [Exit.then, Exit.inBlock]
     refine ret1 (v := .bool false) rfl kk ?_
     have e8 : okV ps vs (K) = false := Bool.eq_false_iff.2 (fun h9 => by
       have h8 := (okV_iff hx22).1 h9
       obtain ⟨⟨hA, hB⟩, hC, hD⟩ := h8
       obtain ⟨hC0, p9, hp9, hC1⟩ := endAt_pos hC
       first | omega | (rw [inB_iff.2 hA] at q54; cases q54))
     exact ⟨ret_bool (goodV_bad (k := K) (by omega) e8).symm, c126⟩
    refine Fq (.bool false) (r_lss (m := findL ps x21.pipe) (n := 0) rfl ek ek (df q125)) ?_
    refine Fq (.bool false) (r_pick (b := false) rfl ek ek) ?_
    refine Fv (.bool false) ?_
    refine Fq (.pointer (some ⟨b2, 1, none⟩)) (r_field (k := 1) rfl ek kk) ?_
    refine Fl (.slice A n c) (sgS (blk_cell (j := 1) x6 kk) onn) ?_
    refine Fv (.int .i64 (findL ps x21.pipe)) ?_
    have hfl := findL_lt ps x21.pipe
    obtain ⟨x127, hx128⟩ := get_of (zs := ps) (k := (findL ps x21.pipe).toNat) (by have := hl; omega)
    obtain ⟨b129, o130, hA131, hb132, hc133, hc134, hc135, hc136⟩ := Rd.elPipe ha hx128
    refine Fq (.pointer (some ⟨b129, o130 + ((findL ps x21.pipe).toNat) * 4, none⟩)) (r_idx (n := n) (c := c) (k := (findL ps x21.pipe).toNat) rfl ek hA131 (evk (z := findL ps x21.pipe) kk (by omega)) kk (by have := hl; omega)) ?_
    refine Fq (.pointer (some ⟨b129, o130 + ((findL ps x21.pipe).toNat) * 4 + 1, none⟩)) (r_field (k := 1) rfl ek kk) ?_
    refine Fl (.int .i64 x127.fr) (sgS (later c48 hc134) (by simp)) ?_
    refine Fq (.pointer (some ⟨b31, 2, none⟩)) (r_field (k := 2) rfl ek kk) ?_
    refine Fl (.int .i64 x21.node) (sgS (blk_cell (j := 2) x41 kk) onn) ?_
    by_cases q137 : (x127.fr : Int) ≠ (x21.node : Int)
    ·refine Fq (.bool true) (r_neq (m := x127.fr) (n := x21.node) rfl ek ek (dt q137)) ?_
     refine Fv (.bool true) ?_
     refine Fq (.pointer (some ⟨b2, 1, none⟩)) (r_field (k := 1) rfl ek kk) ?_
     refine Fl (.slice A n c) (sgS (blk_cell (j := 1) x6 kk) onn) ?_
     refine Fv (.int .i64 (findL ps x21.pipe)) ?_
     refine Fq (.pointer (some ⟨b129, o130 + ((findL ps x21.pipe).toNat) * 4, none⟩)) (r_idx (n := n) (c := c) (k := (findL ps x21.pipe).toNat) rfl ek hA131 (evk (z := findL ps x21.pipe) kk (by omega)) kk (by have := hl; omega)) ?_
     refine Fq (.pointer (some ⟨b129, o130 + ((findL ps x21.pipe).toNat) * 4 + 2, none⟩)) (r_field (k := 2) rfl ek kk) ?_
     refine Fl (.int .i64 x127.to) (sgS (later c48 hc135) (by simp)) ?_
     refine Fq (.pointer (some ⟨b31, 2, none⟩)) (r_field (k := 2) rfl ek kk) ?_
     refine Fl (.int .i64 x21.node) (sgS (blk_cell (j := 2) x41 kk) onn) ?_
     by_cases q138 : (x127.to : Int) ≠ (x21.node : Int)
     ·refine Fq (.bool true) (r_neq (m := x127.to) (n := x21.node) rfl ek ek (dt q138)) ?_
      refine Fq (.bool true) (r_pick (b := true) rfl ek ek) ?_
      refine Fq (.bool true) (r_pick (b := false) rfl ek ek) ?_
      apply F.es
      have x6 := Sk s51 x6 onn
      have x41 := Sk s51 x41 onn
      have c139 := (Sb c48 s51 nkk)
      apply h14
      refine wp_cond_true ek ?_
      refine wk fun K33 h33 => ?_
      refine Rq 1 ?_
      refine Fa (.bool false) ?_
      apply F.es
      apply h33
      refine wp_ret ?_
      try simp only [Exit.then, Exit.inBlock]
      refine ret1 (v := .bool false) rfl kk ?_
      have e8 : okV ps vs (K) = false := Bool.eq_false_iff.2 (fun h9 => by
        have h8 := (okV_iff hx22).1 h9
        obtain ⟨⟨hA, hB⟩, hC, hD⟩ := h8
        obtain ⟨hC0, p9, hp9, hC1⟩ := endAt_pos hC
        obtain rfl := Option.some.inj (hp9.symm.trans hx128)
        first | omega | (rw [inB_iff.2 hA] at q54; cases q54))
      exact ⟨ret_bool (goodV_bad (k := K) (by omega) e8).symm, c139⟩
     refine Fq (.bool false) (r_neq (m := x127.to) (n := x21.node) rfl ek ek (df q138)) ?_
     refine Fq (.bool false) (r_pick (b := true) rfl ek ek) ?_
     refine Fq (.bool false) (r_pick (b := false) rfl ek ek) ?_
     apply F.es
     have x6 := Sk s51 x6 onn
     have x41 := Sk s51 x41 onn
     have c140 := (Sb c48 s51 nkk)
     apply h14
     refine wp_cond_false ek ?_
     apply wp_skip
     apply h13
     refine wk fun K34 h34 => ?_
     refine Rq 1 ?_
     refine Fa (.int .i64 0) ?_
     apply F.es
     apply h34
     refine wp_block ?_
     refine loopK (fun am1 aa1 wl1 => ∃ (j : Nat) , Kn aa1 [(0, .agg #[.int .i64 m, .slice A n c]), (1, .slice A2 n2 c2), (2, .pointer (some ⟨b2, 0, none⟩)), (4, .bool false), (5, .int .i64 (K : Int)), (6, .pointer (some ⟨b31, 0, none⟩)), (7, .int .i64 (findL ps x21.pipe)), (8, .int .i64 (j : Int)), (16, .bool false), (20, .bool true), (75, .bool false)] 99 ∧ (am1 = (K) - j) ∧ (j ≤ K) ∧ (∀ i z, i < j → vs[i]? = some z → ¬ (z.pipe = x21.pipe ∧ z.node = x21.node)) ∧ (wl1.heap[b2]? = some (.cells #[.int .i64 m, .slice A n c] 26 (0, 0))) ∧ (wl1.heap[b31]? = some (.cells #[.int .i64 x21.id, .int .i64 x21.pipe, .int .i64 x21.node, .bool x21.shut] 40 (0, 0))) ∧ (Below w.heap.size w wl1)) ((K) - 0) ?_ ?_
     ·exact ⟨0, Kn.of, rfl, (Nat.zero_le _), (fun i z hi => absurd hi (by omega)), x6, x41, c140⟩
     rintro am1 aa1 wl1 K35 h35 ⟨j, ⟨U1, rfl⟩, rfl, hj, hno, x6, x41, c141⟩
     refine wk fun K36 h36 => ?_
     refine wk fun K37 h37 => ?_
     refine Rq 3 ?_
     refine Fv (.int .i64 (j : Int)) ?_
     refine Fv (.int .i64 (K : Int)) ?_
     by_cases q142 : ((j : Int) : Int) < ((K : Int) : Int)
     ·refine Fq (.bool true) (r_lss (m := (j : Int)) (n := (K : Int)) rfl ek ek (dt q142)) ?_
      apply F.es
      apply h37
      refine wp_cond_true ek ?_
      apply wp_skip
      apply h36
      refine wk fun K38 h38 => ?_
      refine wp_block ?_
      refine wk fun K39 h39 => ?_
      refine W.region_sch (row := none) (Sch.of [(0, false), (1, false), (2, false), (3, false), (4, false), (5, false), (6, false), (7, false), (8, false), (9, false), (10, false), (11, false), (12, false), (13, false), (14, false), (15, false), (16, false), (17, false)]) kk kk (fun _ d _ _ _ h => by cases d <;> exact h) kk (fun w143 e144 s145 => ?_)
      refine Fv (.slice A2 n2 c2) ?_
      refine Fv (.int .i64 (j : Int)) ?_
      obtain ⟨x146, hx147⟩ := get_of (zs := vs) (k := j) (by have := hl2; omega)
      obtain ⟨b148, o149, hA150, hb151, hc152, hc153, hc154, hc155⟩ := Rd.elValve hb hx147
      refine Fq (.pointer (some ⟨b148, o149 + j * 4, none⟩)) (r_idx (n := n2) (c := c2) (k := j) rfl ek hA150 kk kk (by have := hl2; omega)) ?_
      refine Fq (.pointer (some ⟨b148, o149 + j * 4 + 1, none⟩)) (r_field (k := 1) rfl ek kk) ?_
      refine Fl (.int .i64 x146.pipe) (sgS (later c141 hc153) (by simp)) ?_
      refine Fq (.pointer (some ⟨b31, 1, none⟩)) (r_field (k := 1) rfl ek kk) ?_
      refine Fl (.int .i64 x21.pipe) (sgS (blk_cell (j := 1) x41 kk) onn) ?_
      by_cases q156 : (x146.pipe : Int) = (x21.pipe : Int)
      ·refine Fq (.bool true) (r_eql (m := x146.pipe) (n := x21.pipe) rfl ek ek (dt q156)) ?_
       refine Fv (.bool true) ?_
       refine Fv (.slice A2 n2 c2) ?_
       refine Fv (.int .i64 (j : Int)) ?_
       refine Fq (.pointer (some ⟨b148, o149 + j * 4, none⟩)) (r_idx (n := n2) (c := c2) (k := j) rfl ek hA150 kk kk (by have := hl2; omega)) ?_
       refine Fq (.pointer (some ⟨b148, o149 + j * 4 + 2, none⟩)) (r_field (k := 2) rfl ek kk) ?_
       refine Fl (.int .i64 x146.node) (sgS (later c141 hc154) (by simp)) ?_
       refine Fq (.pointer (some ⟨b31, 2, none⟩)) (r_field (k := 2) rfl ek kk) ?_
       refine Fl (.int .i64 x21.node) (sgS (blk_cell (j := 2) x41 kk) onn) ?_
       by_cases q157 : (x146.node : Int) = (x21.node : Int)
       ·refine Fq (.bool true) (r_eql (m := x146.node) (n := x21.node) rfl ek ek (dt q157)) ?_
        refine Fq (.bool true) (r_pick (b := true) rfl ek ek) ?_
        apply F.es
        have x6 := Sk s145 x6 onn
        have x41 := Sk s145 x41 onn
        have c158 := (Sb c141 s145 nkk)
        apply h39
        refine wp_cond_true ek ?_
        refine wk fun K40 h40 => ?_
        refine Rq 1 ?_
        refine Fa (.bool false) ?_
        apply F.es
        apply h40
        refine wp_ret ?_
        try simp only [Exit.then, Exit.inBlock]
        refine ret1 (v := .bool false) rfl kk ?_
        have e8 : okV ps vs (K) = false := Bool.eq_false_iff.2 (fun h9 => by
          have h8 := (okV_iff hx22).1 h9
          obtain ⟨⟨hA, hB⟩, hC, hD⟩ := h8
          obtain ⟨hC0, p9, hp9, hC1⟩ := endAt_pos hC
          obtain rfl := Option.some.inj (hp9.symm.trans hx128)
          exact absurd (placed_yes (k := K) (a := x21.pipe) (b := x21.node) hx147 (by omega) q156 q157) (by rw [hD]; simp))
        exact ⟨ret_bool (goodV_bad (k := K) (by omega) e8).symm, c158⟩
       refine Fq (.bool false) (r_eql (m := x146.node) (n := x21.node) rfl ek ek (df q157)) ?_
       refine Fq (.bool false) (r_pick (b := true) rfl ek ek) ?_
       apply F.es
       have x6 := Sk s145 x6 onn
       have x41 := Sk s145 x41 onn
       have c159 := (Sb c141 s145 nkk)
       apply h39
       refine wp_cond_false ek ?_
       apply wp_skip
       apply h38
       refine Rq 3 ?_
       refine Fv (.int .i64 (j : Int)) ?_
       refine Fq (.int .i64 ((j + 1 : Nat) : Int)) (r_add (m := (j : Int)) (n := 1) (z := ((j + 1 : Nat) : Int)) rfl ek ek (by omega) (by omega)) ?_
       refine Fa (.int .i64 ((j + 1 : Nat) : Int)) ?_
       apply F.es
       exact h35 _ _ _ (by omega : ((K) - (j + 1)) < _) ⟨j + 1, Kn.of, rfl, (by omega), (upto_succ (Q := fun z => ¬ (z.pipe = x21.pipe ∧ z.node = x21.node)) hno hx147 (by omega)), x6, x41, c159⟩
      refine Fq (.bool false) (r_eql (m := x146.pipe) (n := x21.pipe) rfl ek ek (df q156)) ?_
      refine Fv (.bool false) ?_
      refine Fs s145 ?_
      refine Fs s145 ?_
      refine Fs s145 ?_
      refine Fs s145 ?_
      refine Fs s145 ?_
      refine Fs s145 ?_
      refine Fs s145 ?_
      refine Fs s145 ?_
      refine Fq (.bool false) (r_pick (b := false) rfl ek ek) ?_
      apply F.es
      have x6 := Sk s145 x6 onn
      have x41 := Sk s145 x41 onn
      have c160 := (Sb c141 s145 nkk)
      apply h39
      refine wp_cond_false ek ?_
      apply wp_skip
      apply h38
      refine Rq 3 ?_
      refine Fv (.int .i64 (j : Int)) ?_
      refine Fq (.int .i64 ((j + 1 : Nat) : Int)) (r_add (m := (j : Int)) (n := 1) (z := ((j + 1 : Nat) : Int)) rfl ek ek (by omega) (by omega)) ?_
      refine Fa (.int .i64 ((j + 1 : Nat) : Int)) ?_
      apply F.es
      exact h35 _ _ _ (by omega : ((K) - (j + 1)) < _) ⟨j + 1, Kn.of, rfl, (by omega), (upto_succ (Q := fun z => ¬ (z.pipe = x21.pipe ∧ z.node = x21.node)) hno hx147 (by omega)), x6, x41, c160⟩
     refine Fq (.bool false) (r_lss (m := (j : Int)) (n := (K : Int)) rfl ek ek (df q142)) ?_
     apply F.es
     apply h37
     refine wp_cond_false ek ?_
     refine wp_exit ?_
     apply h10
     refine Rq 3 ?_
     refine Fv (.int .i64 (K : Int)) ?_
     refine Fq (.int .i64 ((K + 1 : Nat) : Int)) (r_add (m := (K : Int)) (n := 1) (z := ((K + 1 : Nat) : Int)) rfl ek ek (by omega) (by omega)) ?_
     refine Fa (.int .i64 ((K + 1 : Nat) : Int)) ?_
     apply F.es
     exact h7 _ _ _ (by omega : (n2 - (K + 1)) < _) ⟨K + 1, Kn.of, rfl, (by omega), (okVTo_next hok ((okV_iff hx22).2 ⟨⟨inB_iff.1 q54, (by have e0 : K = 0 := (by omega); subst e0; exact above_zero)⟩, endAt_of (by omega) hx128 (by omega), placed_no hno (by omega)⟩)), x6, c141⟩
    refine Fq (.bool false) (r_neq (m := x127.fr) (n := x21.node) rfl ek ek (df q137)) ?_
    refine Fv (.bool false) ?_
    refine Fs s51 ?_
    refine Fs s51 ?_
    refine Fs s51 ?_
    refine Fs s51 ?_
    refine Fs s51 ?_
    refine Fs s51 ?_
    refine Fs s51 ?_
    refine Fs s51 ?_
    refine Fs s51 ?_
    refine Fq (.bool false) (r_pick (b := false) rfl ek ek) ?_
    refine Fq (.bool false) (r_pick (b := false) rfl ek ek) ?_
    apply F.es
    have x6 := Sk s51 x6 onn
    have x41 := Sk s51 x41 onn
    have c161 := (Sb c48 s51 nkk)
    apply h14
    refine wp_cond_false ek ?_
    apply wp_skip
    apply h13
    refine wk fun K41 h41 => ?_
    refine Rq 1 ?_
    refine Fa (.int .i64 0) ?_
    apply F.es
    apply h41
    refine wp_block ?_
    refine loopK (fun am1 aa1 wl1 => ∃ (j : Nat) , Kn aa1 [(0, .agg #[.int .i64 m, .slice A n c]), (1, .slice A2 n2 c2), (2, .pointer (some ⟨b2, 0, none⟩)), (4, .bool false), (5, .int .i64 (K : Int)), (6, .pointer (some ⟨b31, 0, none⟩)), (7, .int .i64 (findL ps x21.pipe)), (8, .int .i64 (j : Int)), (16, .bool false), (20, .bool true), (75, .bool false)] 99 ∧ (am1 = (K) - j) ∧ (j ≤ K) ∧ (∀ i z, i < j → vs[i]? = some z → ¬ (z.pipe = x21.pipe ∧ z.node = x21.node)) ∧ (wl1.heap[b2]? = some (.cells #[.int .i64 m, .slice A n c] 26 (0, 0))) ∧ (wl1.heap[b31]? = some (.cells #[.int .i64 x21.id, .int .i64 x21.pipe, .int .i64 x21.node, .bool x21.shut] 40 (0, 0))) ∧ (Below w.heap.size w wl1)) ((K) - 0) ?_ ?_
    ·exact ⟨0, Kn.of, rfl, (Nat.zero_le _), (fun i z hi => absurd hi (by omega)), x6, x41, c161⟩
    rintro am1 aa1 wl1 K42 h42 ⟨j, ⟨U1, rfl⟩, rfl, hj, hno, x6, x41, c162⟩
    refine wk fun K43 h43 => ?_
    refine wk fun K44 h44 => ?_
    refine Rq 3 ?_
    refine Fv (.int .i64 (j : Int)) ?_
    refine Fv (.int .i64 (K : Int)) ?_
    by_cases q163 : ((j : Int) : Int) < ((K : Int) : Int)
    ·refine Fq (.bool true) (r_lss (m := (j : Int)) (n := (K : Int)) rfl ek ek (dt q163)) ?_
     apply F.es
     apply h44
     refine wp_cond_true ek ?_
     apply wp_skip
     apply h43
     refine wk fun K45 h45 => ?_
     refine wp_block ?_
     refine wk fun K46 h46 => ?_
     refine W.region_sch (row := none) (Sch.of [(0, false), (1, false), (2, false), (3, false), (4, false), (5, false), (6, false), (7, false), (8, false), (9, false), (10, false), (11, false), (12, false), (13, false), (14, false), (15, false), (16, false), (17, false)]) kk kk (fun _ d _ _ _ h => by cases d <;> exact h) kk (fun w164 e165 s166 => ?_)
     refine Fv (.slice A2 n2 c2) ?_
     refine Fv (.int .i64 (j : Int)) ?_
     obtain ⟨x167, hx168⟩ := get_of (zs := vs) (k := j) (by have := hl2; omega)
     obtain ⟨b169, o170, hA171, hb172, hc173, hc174, hc175, hc176⟩ := Rd.elValve hb hx168
     refine Fq (.pointer (some ⟨b169, o170 + j * 4, none⟩)) (r_idx (n := n2) (c := c2) (k := j) rfl ek hA171 kk kk (by have := hl2; omega)) ?_
     refine Fq (.pointer (some ⟨b169, o170 + j * 4 + 1, none⟩)) (r_field (k := 1) rfl ek kk) ?_
     refine Fl (.int .i64 x167.pipe) (sgS (later c162 hc174) (by simp)) ?_
     refine Fq (.pointer (some ⟨b31, 1, none⟩)) (r_field (k := 1) rfl ek kk) ?_
     refine Fl (.int .i64 x21.pipe) (sgS (blk_cell (j := 1) x41 kk) onn) ?_
     by_cases q177 : (x167.pipe : Int) = (x21.pipe : Int)
     ·refine Fq (.bool true) (r_eql (m := x167.pipe) (n := x21.pipe) rfl ek ek (dt q177)) ?_
      refine Fv (.bool true) ?_
      refine Fv (.slice A2 n2 c2) ?_
      refine Fv (.int .i64 (j : Int)) ?_
      refine Fq (.pointer (some ⟨b169, o170 + j * 4, none⟩)) (r_idx (n := n2) (c := c2) (k := j) rfl ek hA171 kk kk (by have := hl2; omega)) ?_
      refine Fq (.pointer (some ⟨b169, o170 + j * 4 + 2, none⟩)) (r_field (k := 2) rfl ek kk) ?_
      refine Fl (.int .i64 x167.node) (sgS (later c162 hc175) (by simp)) ?_
      refine Fq (.pointer (some ⟨b31, 2, none⟩)) (r_field (k := 2) rfl ek kk) ?_
      refine Fl (.int .i64 x21.node) (sgS (blk_cell (j := 2) x41 kk) onn) ?_
      by_cases q178 : (x167.node : Int) = (x21.node : Int)
      ·refine Fq (.bool true) (r_eql (m := x167.node) (n := x21.node) rfl ek ek (dt q178)) ?_
       refine Fq (.bool true) (r_pick (b := true) rfl ek ek) ?_
       apply F.es
       have x6 := Sk s166 x6 onn
       have x41 := Sk s166 x41 onn
       have c179 := (Sb c162 s166 nkk)
       apply h46
       refine wp_cond_true ek ?_
       refine wk fun K47 h47 => ?_
       refine Rq 1 ?_
       refine Fa (.bool false) ?_
       apply F.es
       apply h47
       refine wp_ret ?_
       try simp only [Exit.then, Exit.inBlock]
       refine ret1 (v := .bool false) rfl kk ?_
       have e8 : okV ps vs (K) = false := Bool.eq_false_iff.2 (fun h9 => by
         have h8 := (okV_iff hx22).1 h9
         obtain ⟨⟨hA, hB⟩, hC, hD⟩ := h8
         obtain ⟨hC0, p9, hp9, hC1⟩ := endAt_pos hC
         obtain rfl := Option.some.inj (hp9.symm.trans hx128)
         exact absurd (placed_yes (k := K) (a := x21.pipe) (b := x21.node) hx168 (by omega) q177 q178) (by rw [hD]; simp))
       exact ⟨ret_bool (goodV_bad (k := K) (by omega) e8).symm, c179⟩
      refine Fq (.bool false) (r_eql (m := x167.node) (n := x21.node) rfl ek ek (df q178)) ?_
      refine Fq (.bool false) (r_pick (b := true) rfl ek ek) ?_
      apply F.es
      have x6 := Sk s166 x6 onn
      have x41 := Sk s166 x41 onn
      have c180 := (Sb c162 s166 nkk)
      apply h46
      refine wp_cond_false ek ?_
      apply wp_skip
      apply h45
      refine Rq 3 ?_
      refine Fv (.int .i64 (j : Int)) ?_
      refine Fq (.int .i64 ((j + 1 : Nat) : Int)) (r_add (m := (j : Int)) (n := 1) (z := ((j + 1 : Nat) : Int)) rfl ek ek (by omega) (by omega)) ?_
      refine Fa (.int .i64 ((j + 1 : Nat) : Int)) ?_
      apply F.es
      exact h42 _ _ _ (by omega : ((K) - (j + 1)) < _) ⟨j + 1, Kn.of, rfl, (by omega), (upto_succ (Q := fun z => ¬ (z.pipe = x21.pipe ∧ z.node = x21.node)) hno hx168 (by omega)), x6, x41, c180⟩
     refine Fq (.bool false) (r_eql (m := x167.pipe) (n := x21.pipe) rfl ek ek (df q177)) ?_
     refine Fv (.bool false) ?_
     refine Fs s166 ?_
     refine Fs s166 ?_
     refine Fs s166 ?_
     refine Fs s166 ?_
     refine Fs s166 ?_
     refine Fs s166 ?_
     refine Fs s166 ?_
     refine Fs s166 ?_
     refine Fq (.bool false) (r_pick (b := false) rfl ek ek) ?_
     apply F.es
     have x6 := Sk s166 x6 onn
     have x41 := Sk s166 x41 onn
     have c181 := (Sb c162 s166 nkk)
     apply h46
     refine wp_cond_false ek ?_
     apply wp_skip
     apply h45
     refine Rq 3 ?_
     refine Fv (.int .i64 (j : Int)) ?_
     refine Fq (.int .i64 ((j + 1 : Nat) : Int)) (r_add (m := (j : Int)) (n := 1) (z := ((j + 1 : Nat) : Int)) rfl ek ek (by omega) (by omega)) ?_
     refine Fa (.int .i64 ((j + 1 : Nat) : Int)) ?_
     apply F.es
     exact h42 _ _ _ (by omega : ((K) - (j + 1)) < _) ⟨j + 1, Kn.of, rfl, (by omega), (upto_succ (Q := fun z => ¬ (z.pipe = x21.pipe ∧ z.node = x21.node)) hno hx168 (by omega)), x6, x41, c181⟩
    refine Fq (.bool false) (r_lss (m := (j : Int)) (n := (K : Int)) rfl ek ek (df q163)) ?_
    apply F.es
    apply h44
    refine wp_cond_false ek ?_
    refine wp_exit ?_
    apply h10
    refine Rq 3 ?_
    refine Fv (.int .i64 (K : Int)) ?_
    refine Fq (.int .i64 ((K + 1 : Nat) : Int)) (r_add (m := (K : Int)) (n := 1) (z := ((K + 1 : Nat) : Int)) rfl ek ek (by omega) (by omega)) ?_
    refine Fa (.int .i64 ((K + 1 : Nat) : Int)) ?_
    apply F.es
    exact h7 _ _ _ (by omega : (n2 - (K + 1)) < _) ⟨K + 1, Kn.of, rfl, (by omega), (okVTo_next hok ((okV_iff hx22).2 ⟨⟨inB_iff.1 q54, (by have e0 : K = 0 := (by omega); subst e0; exact above_zero)⟩, endAt_of (by omega) hx128 (by omega), placed_no hno (by omega)⟩)), x6, c162⟩
   rw [q54]
   refine Fq (.bool true) (r_not (b := false) rfl ek rfl) ?_
   refine Fv (.bool true) ?_
   refine Fs s51 ?_
   refine Fs s51 ?_
   refine Fs s51 ?_
   refine Fs s51 ?_
   refine Fs s51 ?_
   refine Fs s51 ?_
   refine Fs s51 ?_
   refine Fs s51 ?_
   refine Fs s51 ?_
   refine Fs s51 ?_
   refine Fs s51 ?_
   refine Fs s51 ?_
   refine Fs s51 ?_
   refine Fq (.bool true) (r_pick (b := true) rfl ek ek) ?_
   refine Fv (.bool true) ?_
   refine Fs s51 ?_
   refine Fs s51 ?_
   refine Fq (.bool true) (r_pick (b := true) rfl ek ek) ?_
   refine Fv (.bool true) ?_
   refine Fs s51 ?_
   refine Fs s51 ?_
   refine Fs s51 ?_
   refine Fs s51 ?_
   refine Fs s51 ?_
   refine Fs s51 ?_
   refine Fs s51 ?_
   refine Fs s51 ?_
   refine Fs s51 ?_
   refine Fs s51 ?_
   refine Fs s51 ?_
   refine Fs s51 ?_
   refine Fs s51 ?_
   refine Fs s51 ?_
   refine Fs s51 ?_
   refine Fs s51 ?_
   refine Fs s51 ?_
   refine Fs s51 ?_
   refine Fs s51 ?_
   refine Fs s51 ?_
   refine Fq (.bool true) (r_pick (b := true) rfl ek ek) ?_
   apply F.es
   have c182 := (Sb c48 s51 nkk)
   apply h14
   refine wp_cond_true ek ?_
   refine wk fun K48 h48 => ?_
   refine Rq 1 ?_
   refine Fa (.bool false) ?_
   apply F.es
   apply h48
   refine wp_ret ?_
   try simp only [Exit.then, Exit.inBlock]
   refine ret1 (v := .bool false) rfl kk ?_
   have e8 : okV ps vs (K) = false := Bool.eq_false_iff.2 (fun h9 => by
     have h8 := (okV_iff hx22).1 h9
     obtain ⟨⟨hA, hB⟩, hC, hD⟩ := h8
     obtain ⟨hC0, p9, hp9, hC1⟩ := endAt_pos hC
     first | omega | (rw [inB_iff.2 hA] at q54; cases q54))
   exact ⟨ret_bool (goodV_bad (k := K) (by omega) e8).symm, c182⟩
  refine Fq (.bool false) (r_lss (m := (K : Int)) (n := (n2 : Int)) rfl ek ek (df q19)) ?_
  apply F.es
  apply h9
  refine wp_cond_false ek ?_
  refine wp_exit ?_
  apply h5
  refine wk fun K49 h49 => ?_
  refine Rq 1 ?_
  refine Fa (.bool true) ?_
  apply F.es
  apply h49
  refine wp_ret ?_
  try simp only [Exit.then]
  refine ret1 (v := .bool true) rfl kk ?_
  exact ⟨ret_bool (goodV_fin q14 (by omega) (by rw [show vs.length = K by omega]; exact hok)).symm, c18⟩
 rw [q14]
 refine Fq (.bool true) (r_not (b := false) rfl ek rfl) ?_
 refine Fv (.bool true) ?_
 refine Fs s13 ?_
 refine Fs s13 ?_
 refine Fs s13 ?_
 refine Fq (.bool true) (r_pick (b := true) rfl ek ek) ?_
 apply F.es
 have c183 := (Sb c9 s13 nkk)
 apply h3
 refine wp_cond_true ek ?_
 refine wk fun K50 h50 => ?_
 refine Rq 1 ?_
 refine Fa (.bool false) ?_
 apply F.es
 apply h50
 refine wp_ret ?_
 try simp only [Exit.then]
 refine ret1 (v := .bool false) rfl kk ?_
 exact ⟨ret_bool (goodV_out (.inl q14)).symm, c183⟩
end Go.Proofs.Ytdbgfejeleafgaa
namespace Go.Proofs.Ytdbgfejeleafgaa
open Go.RowKit
set_option linter.unusedVariables false
structure GoodVal (m : Int) (ps : List Pp) (vs : List Vv) : Prop where
  net : GoodNet m ps
  good : goodN m ps = true
  len : vs.length ≤ 10
  uniq : uniqV vs
  place : ∀ v, v ∈ vs → ∃ (k : Nat) (p : Pp), findL ps v.pipe = (k : Int) ∧ k < ps.length ∧ ps[k]? = some p ∧ (p.fr = v.node ∨ p.to = v.node)
  ids : ∀ v, v ∈ vs → 1 ≤ v.id ∧ v.id ≤ 99
  ok : okVTo ps vs vs.length = true
theorem goodV_of {m : Int} {ps : List Pp} {vs : List Vv} (h : goodV m ps vs = true) : GoodVal m ps vs := by
  have h0 := h
  unfold goodV at h
  simp only [Bool.and_eq_true, decide_eq_true_iff] at h
  obtain ⟨h1, h2, h3⟩ := h
  have hat : ∀ i v, vs[i]? = some v → ((1 ≤ v.id ∧ v.id ≤ 99) ∧ above vs i v = true) ∧ endAt ps (findL ps v.pipe) v.node = true ∧ placed (vs.take i) v.pipe v.node = false := fun i v hv =>
    (okV_iff hv).1 (okVTo_at h3 (List.getElem?_eq_some_iff.1 hv).1)
  have hone : ∀ i j (u v : Vv), i < j → vs[i]? = some u → vs[j]? = some v → u.pipe = v.pipe → u.node = v.node → False := fun i j u v hij hu hv e1 e2 => by
    have := (hat j v hv).2.2
    rw [placed_yes hu hij e1 e2] at this; cases this
  refine ⟨good_of h1, h1, h2, fun u v hu hv e1 e2 => ?_, fun v hv => ?_, fun v hv => ?_, h3⟩
  · obtain ⟨i, hi, eu⟩ := List.getElem_of_mem hu
    obtain ⟨j, hj, ev⟩ := List.getElem_of_mem hv
    have hu' : vs[i]? = some u := by rw [List.getElem?_eq_getElem hi, eu]
    have hv' : vs[j]? = some v := by rw [List.getElem?_eq_getElem hj, ev]
    rcases Nat.lt_trichotomy i j with h | h | h
    · exact (hone i j u v h hu' hv' e1 e2).elim
    · subst h; rw [hu'] at hv'; cases hv'; rfl
    · exact (hone j i v u h hv' hu' e1.symm e2.symm).elim
  · obtain ⟨j, hj, ev⟩ := List.getElem_of_mem hv
    obtain ⟨h0, p, hp, he⟩ := endAt_pos (hat j v (by rw [List.getElem?_eq_getElem hj, ev])).2.1
    exact ⟨(findL ps v.pipe).toNat, p, by omega, (List.getElem?_eq_some_iff.1 hp).1, hp, he⟩
  · obtain ⟨j, hj, ev⟩ := List.getElem_of_mem hv
    exact (hat j v (by rw [List.getElem?_eq_getElem hj, ev])).1.1
end Go.Proofs.Ytdbgfejeleafgaa
namespace Go.Proofs.Ytdbgfejeleafgaa
open Go.RowKit
set_option linter.unusedVariables false
theorem take_splice {α : Type} (l ns : List α) (j N : Nat) (h : j + ns.length ≤ N) (hN : N ≤ l.length) : (l.take j ++ ns ++ l.drop (j + ns.length)).take N = (l.take N).take j ++ ns ++ (l.take N).drop (j + ns.length) := by
  have h1 : (l.take j).length = j := by rw [List.length_take]; omega
  rw [List.append_assoc, List.take_append, List.take_append, h1, List.take_take, List.take_take, List.drop_take, List.take_of_length_le (by omega : ns.length ≤ N - j), List.append_assoc, show min j N = j by omega, show min N j = j by omega, show N - j - ns.length = N - (j + ns.length) by omega]
section
variable {P : Program} {ops : Array Oper} {Q : Exit → Act → World → Prop} {W : World} {row : Option Nat} {S : World → Prop}
theorem W.sst {i : Nat} {π : Sch} {l : List Value} {w : World} {o : Oper} {ty e : TypeId} {x y : Operand} {base size g j n c : Nat} {u : Value} {xs news : List Value} (hS : SG W row w) (hi : ops[i]? = some o) (hw : Region.wanted o (yielded ops l.toArray) = true) (hd : o.dst = none)
    (ho : o.op = .store ty x y) (hx : (Act.mk l.toArray []).eval x = .pointer (some ⟨g, j, none⟩)) (hy : (Act.mk l.toArray []).eval y = u) (how : w.ownsRow base e size (.slice (some ⟨g, 0, none⟩) n c) n xs) (hv : u.cells.toList = news) (hs : sizeB P ty = some news.length)
    (h1 : news.all (·.oneCell') = true) (hj : j + news.length ≤ n * size) (hrow : some g = row ∨ W.heap.size ≤ g)
    (h : ∀ w', w'.ownsRow base e size (.slice (some ⟨g, 0, none⟩) n c) n (xs.take j ++ news ++ xs.drop (j + news.length)) → w.grownBy w' (some g) → SG W row w' → Ws P ops Q (SG W row) π l w') : Ws P ops Q (SG W row) (.cons (i, true) π) l w := by
  rcases how.2 with ⟨h', _⟩ | ⟨g', cap', cur, h', hb, hg, hnc, hcm, hcs, htake⟩
  · simp at h'
  · simp only [Value.slice.injEq, Option.some.injEq, Addr.mk.injEq, and_true, true_and] at h'
    obtain ⟨rfl, rfl⟩ := h'
    have hle : n * size ≤ cur.toList.length := by rw [Array.length_toList, hcs]; exact Nat.mul_le_mul_right _ hnc
    have hle' : j + news.length ≤ cur.size := by rw [Array.length_toList] at hle; omega
    refine Go.Proofs.Ytdbgfejeleafgaa.W.ss (cs := cur) (cs' := (cur.toList.take j ++ news ++ cur.toList.drop (j + news.length)).toArray) hS hi hw hd ho hx hy hg hv hs hle' h1 rfl hrow (fun w' k1 k2 k3 => h w' ⟨?_, .inr ⟨g, c, _, rfl, hb, k2, hnc, hcm, ?_, ?_⟩⟩ k1 k3)
    · have := how.1
      simp only [List.length_append, List.length_take, List.length_drop]; omega
    · rw [List.size_toArray]; simp only [List.length_append, List.length_take, List.length_drop, Array.length_toList]; omega
    · rw [List.toList_toArray, take_splice _ _ _ _ hj hle, htake]
end
theorem valves_one (vs : List Vv) : ∀ u ∈ valvesV vs, u.oneCell' = true := fun u hu => by
  unfold valvesV at hu; obtain ⟨p, _, hp⟩ := List.mem_flatMap.1 hu
  simp [Vv.vals] at hp
  rcases hp with rfl | rfl | rfl | rfl <;> rfl
theorem own_joinV {w : World} {base : Nat} {e : TypeId} {v : Value} {n : Nat} {zs ys : List Vv} (h : w.ownsRow base e 4 v n (valvesV zs ++ valvesV ys)) : w.ownsRow base e 4 v n (valvesV (zs ++ ys)) := by
  simpa [valvesV] using h
theorem own_snocV {w : World} {base : Nat} {e : TypeId} {v : Value} {n : Nat} {vs : List Vv} {x : Vv} (h : w.ownsRow base e 4 v n (valvesV vs ++ (#[Value.int .i64 x.id, .int .i64 x.pipe, .int .i64 x.node, .bool x.shut] : Array Value).toList)) : w.ownsRow base e 4 v n (valvesV (vs ++ [x])) := by
  simpa [valvesV, Vv.vals] using h
theorem valvesV_set : ∀ {vs : List Vv} {k : Nat} {x0 : Vv}, vs[k]? = some x0 → ∀ x : Vv, (valvesV vs).take (k * 4) ++ x.vals ++ (valvesV vs).drop (k * 4 + 4) = valvesV (vs.set k x)
  | [], k, x0, h, x => by simp at h
  | y :: vs, 0, x0, h, x => by simp [valvesV, Vv.vals]
  | y :: vs, k + 1, x0, h, x => by
    have ih := valvesV_set (vs := vs) (k := k) (x0 := x0) (by simpa using h) x
    simp only [valvesV, List.flatMap_cons, List.set_cons_succ] at ih ⊢
    rw [← ih, show (k + 1) * 4 = k * 4 + 4 by omega]
    simp [Vv.vals]
theorem valvesV_shut : ∀ {vs : List Vv} {k : Nat} {x : Vv}, vs[k]? = some x → ∀ b : Bool, (valvesV vs).take (k * 4 + 3) ++ [Value.bool b] ++ (valvesV vs).drop (k * 4 + 3 + 1) = valvesV (vs.set k { x with shut := b })
  | [], k, x0, h, b => by simp at h
  | y :: vs, 0, x0, h, b => by simp at h; subst h; simp [valvesV, Vv.vals]
  | y :: vs, k + 1, x0, h, b => by
    have ih := valvesV_shut (vs := vs) (k := k) (x := x0) (by simpa using h) b
    simp only [valvesV, List.flatMap_cons, List.set_cons_succ] at ih ⊢
    rw [← ih, show (k + 1) * 4 + 3 = k * 4 + 3 + 4 by omega, show k * 4 + 3 + 4 + 1 = k * 4 + 3 + 1 + 4 by omega]
    simp [Vv.vals]
theorem own_setV {w : World} {base : Nat} {e : TypeId} {v : Value} {n k : Nat} {vs : List Vv} {x0 : Vv} (hx : vs[k]? = some x0) (x : Vv) (h : w.ownsRow base e 4 v n ((valvesV vs).take (0 + k * 4) ++ x.vals ++ (valvesV vs).drop (0 + k * 4 + 4))) : w.ownsRow base e 4 v n (valvesV (vs.set k x)) := by
  rw [Nat.zero_add, valvesV_set hx] at h; exact h
theorem own_setU {w : World} {base : Nat} {e : TypeId} {v : Value} {n k : Nat} {vs : List Vv} {x : Vv} (hx : vs[k]? = some x) {b : Bool} (h : w.ownsRow base e 4 v n ((valvesV vs).take (0 + k * 4 + 3) ++ [.bool b] ++ (valvesV vs).drop (0 + k * 4 + 3 + 1))) : w.ownsRow base e 4 v n (valvesV (vs.set k { x with shut := b })) := by
  rw [Nat.zero_add, valvesV_shut hx] at h; exact h
theorem own_atV {w : World} {base g n c : Nat} {e : TypeId} {vs : List Vv} {k : Nat} {x : Vv} (h : w.ownsRow base e 4 (.slice (some ⟨g, 0, none⟩) n c) n (valvesV vs)) (hx : vs[k]? = some x) :
    w.cell? ⟨g, 0 + k * 4, none⟩ = some (.int .i64 x.id) ∧ w.cell? ⟨g, 0 + k * 4 + 1, none⟩ = some (.int .i64 x.pipe) ∧ w.cell? ⟨g, 0 + k * 4 + 2, none⟩ = some (.int .i64 x.node) ∧ w.cell? ⟨g, 0 + k * 4 + 3, none⟩ = some (.bool x.shut) := by
  have hl := h.1
  rw [valvesV_len] at hl
  have hk := (List.getElem?_eq_some_iff.1 hx).1
  refine ⟨?_, ?_, ?_, ?_⟩
  · rw [h.cellAt _ (by omega)]; have := valvesV_at vs k 0 (by omega); rw [hx] at this; rw [Nat.zero_add]; exact this
  · rw [h.cellAt _ (by omega), Nat.zero_add, valvesV_at vs k 1 (by omega), hx]; rfl
  · rw [h.cellAt _ (by omega), Nat.zero_add, valvesV_at vs k 2 (by omega), hx]; rfl
  · rw [h.cellAt _ (by omega), Nat.zero_add, valvesV_at vs k 3 (by omega), hx]; rfl
end Go.Proofs.Ytdbgfejeleafgaa
namespace Go.Proofs.Ytdbgfejeleafgaa
open Go.RowKit
set_option linter.unusedVariables false
def shutX (plan : List Int) (v : Vv) : Vv := { v with shut := v.shut || plan.contains v.id }
def shutV (vs : List Vv) (plan : List Int) : List Vv := vs.map (shutX plan)
theorem shutV_len (vs : List Vv) (plan : List Int) : (shutV vs plan).length = vs.length := by simp [shutV]
theorem shutV_at {vs : List Vv} {plan : List Int} {k : Nat} {x : Vv} (h : vs[k]? = some x) : (shutV vs plan)[k]? = some (shutX plan x) := by simp [shutV, h]
def mixV (vs : List Vv) (plan : List Int) (i : Nat) : List Vv := (shutV vs plan).take i ++ vs.drop i
theorem mixV_zero (vs : List Vv) (plan : List Int) : mixV vs plan 0 = vs := by simp [mixV]
theorem mixV_len (vs : List Vv) (plan : List Int) (i : Nat) : (mixV vs plan i).length = vs.length := by unfold mixV; rw [List.length_append, List.length_take, List.length_drop, shutV_len]; omega
theorem mixV_end {vs : List Vv} {plan : List Int} {i : Nat} (h : vs.length ≤ i) : mixV vs plan i = shutV vs plan := by
  unfold mixV; rw [List.take_of_length_le (by rw [shutV_len]; exact h), List.drop_eq_nil_of_le h, List.append_nil]
theorem mixV_at {vs : List Vv} {plan : List Int} {i : Nat} {x : Vv} (h : vs[i]? = some x) : (mixV vs plan i)[i]? = some x := by
  have hi := (List.getElem?_eq_some_iff.1 h).1
  unfold mixV
  rw [List.getElem?_append_right (by rw [List.length_take, shutV_len]; omega), List.length_take, shutV_len, show i - min i vs.length = 0 by omega, List.getElem?_drop, Nat.add_zero]; exact h
theorem mixV_next {vs : List Vv} {plan : List Int} {i : Nat} {x : Vv} (h : vs[i]? = some x) : mixV vs plan (i + 1) = (mixV vs plan i).set i (shutX plan x) := by
  have hi := (List.getElem?_eq_some_iff.1 h).1
  unfold mixV
  have hd : vs.drop i = x :: vs.drop (i + 1) := by rw [List.drop_eq_getElem_cons hi]; congr 1; exact (List.getElem?_eq_some_iff.1 h).2
  rw [List.take_add_one, shutV_at h, hd, List.set_append_right _ _ (by rw [List.length_take, shutV_len]; omega), List.length_take, shutV_len, show i - min i vs.length = 0 by omega]
  simp
theorem shutX_true {plan : List Int} {x : Vv} (h : x.shut = true ∨ plan.contains x.id = true) : shutX plan x = { x with shut := true } := by
  unfold shutX; rcases h with h | h <;> rw [h] <;> simp
theorem shutX_false {plan : List Int} {x : Vv} (h : x.shut = false) (h' : plan.contains x.id = false) : shutX plan x = { x with shut := false } := by unfold shutX; rw [h, h']; rfl
theorem shutX_no {plan : List Int} {x : Vv} (h : plan.contains x.id = false) : shutX plan x = x := by unfold shutX; rw [h, Bool.or_false]
theorem mixV_skip {vs : List Vv} {plan : List Int} {i : Nat} {x : Vv} (h : vs[i]? = some x) (hc : plan.contains x.id = false) : mixV vs plan (i + 1) = mixV vs plan i := by
  rw [mixV_next h, shutX_no hc]
  apply List.ext_getElem?
  intro j
  have hi := (List.getElem?_eq_some_iff.1 h).1
  by_cases e : j = i
  · subst e; rw [List.getElem?_set_self (by rw [mixV_len]; exact hi), mixV_at h]
  · rw [List.getElem?_set_ne (by omega)]
theorem uniqV_shut {vs : List Vv} (h : uniqV vs) (plan : List Int) : uniqV (shutV vs plan) := fun u v hu hv e1 e2 => by
  obtain ⟨u', hu', rfl⟩ := List.mem_map.1 hu
  obtain ⟨v', hv', rfl⟩ := List.mem_map.1 hv
  rw [h u' v' hu' hv' e1 e2]
theorem reach_mono {E F : Int → Int → Prop} (h : ∀ a b, E a b → F a b) {a b : Int} (hr : Reach E a b) : Reach F a b :=
  reach_closed (S := fun b => Reach F a b) (reach_refl _ _) (fun b c hb he => reach_step hb (h _ _ he)) hr
theorem openQ_shut {vs : List Vv} {plan : List Int} {p : Pp} {v : Int} : openQ (shutV vs plan) true p v = true ↔ ∀ u, u ∈ vs → u.pipe = p.id → u.node = v → u.shut = false ∧ plan.contains u.id = false := by
  unfold openQ blocked shutV
  rw [Bool.not_eq_true', List.any_map]
  show (vs.any (fun u => decide (u.pipe = p.id) && decide (u.node = v) && (!true || (u.shut || plan.contains u.id)))) = false ↔ _
  rw [List.any_eq_false]
  constructor
  · intro h u hu e1 e2
    have := h u hu
    simp only [Bool.and_eq_true, decide_eq_true_eq, Bool.not_true, Bool.false_or, Bool.or_eq_true, not_and, not_or, Bool.not_eq_true] at this
    exact this ⟨e1, e2⟩
  · intro h u hu
    simp only [Bool.and_eq_true, decide_eq_true_eq, Bool.not_true, Bool.false_or, Bool.or_eq_true, not_and, not_or, Bool.not_eq_true]
    exact fun e => h u hu e.1 e.2
theorem shut_link_mono {ps : List Pp} {vs : List Vv} {plan plan' : List Int} (h : ∀ u, u ∈ vs → u.shut = false → plan.contains u.id = true → plan'.contains u.id = true) {a b : Int} (hl : linked ps (openQ (shutV vs plan') true) a b) : linked ps (openQ (shutV vs plan) true) a b := by
  obtain ⟨i, p, v, hp, hv, hq, he⟩ := hl
  refine ⟨i, p, v, hp, hv, openQ_shut.2 (fun u hu e1 e2 => ?_), he⟩
  have := openQ_shut.1 hq u hu e1 e2
  refine ⟨this.1, ?_⟩
  cases hc : plan.contains u.id with
  | false => rfl
  | true => rw [h u hu this.1 hc] at this; exact this.2
noncomputable def cutB (ps : List Pp) (vs : List Vv) (s id : Int) (plan : List Int) : Bool := !rb (linked ps (openQ (shutV vs plan) true)) s (9 + findL ps id)
theorem cut_mono {ps : List Pp} {vs : List Vv} {s id : Int} {plan plan' : List Int} (h : ∀ u, u ∈ vs → u.shut = false → plan.contains u.id = true → plan'.contains u.id = true) (hc : cutB ps vs s id plan = true) : cutB ps vs s id plan' = true := by
  unfold cutB at hc ⊢
  rw [Bool.not_eq_true'] at hc ⊢
  rw [← Bool.not_eq_true] at hc ⊢
  intro hr
  exact hc (rb_iff.2 (reach_mono (fun a b => shut_link_mono h) (rb_iff.1 hr)))
def openIds (vs : List Vv) : List Int := (vs.filter (fun v => !v.shut)).map (fun v => v.id)
theorem openIds_len (vs : List Vv) : (openIds vs).length ≤ vs.length := by unfold openIds; rw [List.length_map]; exact List.length_filter_le _ _
theorem mem_openIds {vs : List Vv} {a : Int} : a ∈ openIds vs ↔ ∃ v, v ∈ vs ∧ v.shut = false ∧ v.id = a := by
  unfold openIds; rw [List.mem_map]
  constructor
  · rintro ⟨v, hv, e⟩; rw [List.mem_filter] at hv; exact ⟨v, hv.1, by simpa using hv.2, e⟩
  · rintro ⟨v, h1, h2, e⟩; exact ⟨v, List.mem_filter.2 ⟨h1, by simpa using h2⟩, e⟩
theorem openIds_yes {vs : List Vv} {i : Nat} {x : Vv} (hx : vs[i]? = some x) (h : x.shut = false) : openIds (vs.take (i + 1)) = openIds (vs.take i) ++ [x.id] := by
  unfold openIds; rw [List.take_add_one, hx, List.filter_append, List.map_append]; simp [h]
theorem openIds_no {vs : List Vv} {i : Nat} {x : Vv} (hx : vs[i]? = some x) (h : x.shut = true) : openIds (vs.take (i + 1)) = openIds (vs.take i) := by
  unfold openIds; rw [List.take_add_one, hx, List.filter_append, List.map_append]; simp [h]
theorem cut_open {ps : List Pp} {vs : List Vv} {s id : Int} {plan : List Int} (hc : cutB ps vs s id plan = true) : cutB ps vs s id (openIds vs) = true :=
  cut_mono (fun u hu h0 _ => List.contains_iff_mem.2 (mem_openIds.2 ⟨u, hu, h0, rfl⟩)) hc
end Go.Proofs.Ytdbgfejeleafgaa
namespace Go.Proofs.Ytdbgfejeleafgaa
open Go.RowKit
set_option linter.unusedVariables false
def choiceTo (l : List Int) (set : Nat) : Nat → List Int
  | 0 => []
  | i + 1 => choiceTo l set i ++ (if set / 2 ^ i % 2 = 1 then [l.getD i 0] else [])
def choice (l : List Int) (set : Nat) : List Int := choiceTo l set l.length
theorem choiceTo_yes {l : List Int} {set i : Nat} {x : Int} (hx : l[i]? = some x) (h : set / 2 ^ i % 2 = 1) : choiceTo l set (i + 1) = choiceTo l set i ++ [x] := by
  rw [choiceTo, if_pos h, List.getD_eq_getElem?_getD, hx]; rfl
theorem choiceTo_no {l : List Int} {set i : Nat} (h : ¬ set / 2 ^ i % 2 = 1) : choiceTo l set (i + 1) = choiceTo l set i := by
  rw [choiceTo, if_neg h, List.append_nil]
theorem choiceTo_len (l : List Int) (set : Nat) : ∀ i, (choiceTo l set i).length ≤ i
  | 0 => by simp [choiceTo]
  | i + 1 => by
    have := choiceTo_len l set i
    unfold choiceTo; rw [List.length_append]
    split <;> simp <;> omega
theorem choice_len (l : List Int) (set : Nat) : (choice l set).length ≤ l.length := choiceTo_len l set l.length
def lexL : List Int → List Int → Bool
  | a :: us, b :: ws => if a = b then lexL us ws else decide (a < b)
  | _, _ => false
def lessL (a b : List Int) : Bool := if a.length = b.length then lexL a b else decide (a.length < b.length)
def better (h : List Int → Int) (plan : List Int) (b : List Int × Int) : Bool := decide (h plan < b.2) || (decide (h plan = b.2) && lessL plan b.1)
def bestStep (P : List Int → Bool) (h : List Int → Int) (r : Option (List Int × Int)) (plan : List Int) : Option (List Int × Int) :=
  if P plan = true then (match r with | none => some (plan, h plan) | some b => if better h plan b = true then some (plan, h plan) else some b) else r
def bestTo (P : List Int → Bool) (h : List Int → Int) (l : List Int) : Nat → Option (List Int × Int)
  | 0 => none
  | s + 1 => bestStep P h (bestTo P h l s) (choice l s)
def bestOf (P : List Int → Bool) (h : List Int → Int) (l : List Int) : Option (List Int × Int) := bestTo P h l (2 ^ l.length)
theorem bestTo_next {P : List Int → Bool} {h : List Int → Int} {l : List Int} {s : Nat} {r : Option (List Int × Int)} (e : bestTo P h l s = r) : bestTo P h l (s + 1) = bestStep P h r (choice l s) := by rw [bestTo, e]
theorem bestStep_no {P : List Int → Bool} {h : List Int → Int} {r : Option (List Int × Int)} {plan : List Int} (e : P plan = false) : bestStep P h r plan = r := by unfold bestStep; rw [if_neg (by rw [e]; simp)]
theorem bestStep_first {P : List Int → Bool} {h : List Int → Int} {plan : List Int} (e : P plan = true) : bestStep P h none plan = some (plan, h plan) := by unfold bestStep; rw [if_pos e]
theorem bestStep_yes {P : List Int → Bool} {h : List Int → Int} {plan : List Int} {b : List Int × Int} (e : P plan = true) (hb : better h plan b = true) : bestStep P h (some b) plan = some (plan, h plan) := by unfold bestStep; rw [if_pos e]; simp only [hb, if_true]
theorem bestStep_keep {P : List Int → Bool} {h : List Int → Int} {plan : List Int} {b : List Int × Int} (hb : better h plan b = false) : bestStep P h (some b) plan = some b := by
  unfold bestStep
  split
  · simp only [hb]; rfl
  · rfl
theorem bestTo_none {P : List Int → Bool} {h : List Int → Int} {l : List Int} (hP : ∀ s, P (choice l s) = false) : ∀ s, bestTo P h l s = none
  | 0 => rfl
  | s + 1 => by rw [bestTo_next (bestTo_none hP s), bestStep_no (hP s)]
theorem bestTo_in {P : List Int → Bool} {h : List Int → Int} {l : List Int} {b : List Int × Int} : ∀ {s : Nat}, bestTo P h l s = some b → ∃ t, t < s ∧ b.1 = choice l t ∧ P b.1 = true ∧ b.2 = h b.1
  | 0, e => by cases e
  | s + 1, e => by
    by_cases hP : P (choice l s) = true
    · cases hr : bestTo P h l s with
      | none => rw [bestTo_next hr, bestStep_first hP] at e; cases e; exact ⟨s, by omega, rfl, hP, rfl⟩
      | some c =>
        by_cases hb : better h (choice l s) c = true
        · rw [bestTo_next hr, bestStep_yes hP hb] at e; cases e; exact ⟨s, by omega, rfl, hP, rfl⟩
        · rw [bestTo_next hr, bestStep_keep (by simpa using hb)] at e; cases e
          obtain ⟨t, ht, r⟩ := bestTo_in hr
          exact ⟨t, by omega, r⟩
    · rw [bestTo_next rfl, bestStep_no (by simpa using hP)] at e
      obtain ⟨t, ht, r⟩ := bestTo_in e
      exact ⟨t, by omega, r⟩
theorem bestOf_in {P : List Int → Bool} {h : List Int → Int} {l : List Int} {b : List Int × Int} (e : bestOf P h l = some b) : ∃ t, b.1 = choice l t ∧ P b.1 = true ∧ b.2 = h b.1 := let ⟨t, _, r⟩ := bestTo_in e; ⟨t, r⟩
theorem bestTo_mono {P : List Int → Bool} {h : List Int → Int} {l : List Int} {s : Nat} (e : bestTo P h l s ≠ none) : ∀ d, bestTo P h l (s + d) ≠ none
  | 0 => e
  | d + 1 => by
    have := bestTo_mono e d
    cases hr : bestTo P h l (s + d) with
    | none => exact absurd hr this
    | some c =>
      rw [← Nat.add_assoc, bestTo_next hr]
      unfold bestStep
      split
      · simp only []; split <;> simp
      · simp
theorem bestOf_some {P : List Int → Bool} {h : List Int → Int} {l : List Int} {t : Nat} (ht : t < 2 ^ l.length) (hP : P (choice l t) = true) : bestOf P h l ≠ none := by
  have h1 : bestTo P h l (t + 1) ≠ none := by
    cases hr : bestTo P h l t with
    | none => rw [bestTo_next hr, bestStep_first hP]; simp
    | some c => rw [bestTo_next hr]; unfold bestStep; rw [if_pos hP]; simp only []; split <;> simp
  have := bestTo_mono h1 (2 ^ l.length - (t + 1))
  rwa [show t + 1 + (2 ^ l.length - (t + 1)) = 2 ^ l.length by omega] at this
def cmpL : List Int → List Int → Int
  | [], [] => 0
  | [], _ :: _ => -1
  | _ :: _, [] => 1
  | a :: us, b :: ws => if a < b then -1 else if b < a then 1 else cmpL us ws
theorem cmpL_lex : ∀ {a b : List Int}, a.length = b.length → decide (cmpL a b < 0) = lexL a b
  | [], [], _ => rfl
  | [], _ :: _, h => by simp at h
  | _ :: _, [], h => by simp at h
  | a :: us, b :: ws, h => by
    have ih := cmpL_lex (a := us) (b := ws) (by simpa using h)
    unfold cmpL lexL
    by_cases h1 : a < b
    · rw [if_pos h1, if_neg (by omega), decide_eq_true h1]; rfl
    · rw [if_neg h1]
      by_cases h2 : b < a
      · rw [if_pos h2, if_neg (by omega), decide_eq_false h1]; rfl
      · rw [if_neg h2, if_pos (by omega)]; exact ih
theorem cmpL_two (o n l k : Int) : cmpL [o, n] [l, k] = if o < l then -1 else if l < o then 1 else if n < k then -1 else if k < n then 1 else 0 := rfl
theorem better_cmp {h : List Int → Int} {plan best : List Int} {least : Int} : better h plan (best, least) = (decide (cmpL [h plan, (plan.length : Int)] [least, (best.length : Int)] < 0) || (decide (cmpL [h plan, (plan.length : Int)] [least, (best.length : Int)] = 0) && decide (cmpL plan best < 0))) := by
  unfold better lessL
  rw [cmpL_two]
  by_cases h1 : h plan < least
  · rw [if_pos h1, decide_eq_true h1]; rfl
  · rw [if_neg h1, decide_eq_false h1, Bool.false_or]
    by_cases h2 : least < h plan
    · rw [if_pos h2, decide_eq_false (by omega)]; rfl
    · rw [if_neg h2, decide_eq_true (by omega), Bool.true_and]
      by_cases h3 : plan.length = best.length
      · rw [if_pos h3, if_neg (by omega), if_neg (by omega), ← cmpL_lex h3]; rfl
      · rw [if_neg h3]
        by_cases h4 : plan.length < best.length
        · rw [if_pos (by omega), decide_eq_true h4]; rfl
        · rw [if_neg (by omega), if_pos (by omega), decide_eq_false h4]; rfl
end Go.Proofs.Ytdbgfejeleafgaa
namespace Go.Proofs.Ytdbgfejeleafgaa
open Go.RowKit
set_option linter.unusedVariables false
set_option linter.unusedSimpArgs false
def idxI (q : Int → Bool) : List Int → Int
  | [] => -1
  | p :: ps => if q p = true then 0 else if idxI q ps < 0 then -1 else idxI q ps + 1
theorem idxI_at {q : Int → Bool} : ∀ {ps : List Int} {k : Nat} {x : Int}, (∀ j z, j < k → ps[j]? = some z → q z = false) → ps[k]? = some x → q x = true → idxI q ps = (k : Int)
  | [], k, x, _, hx, _ => by simp at hx
  | p :: ps, 0, x, _, hx, e => by simp at hx; subst hx; unfold idxI; rw [if_pos e]; rfl
  | p :: ps, k + 1, x, h, hx, e => by
    have h0 := h 0 p (by omega) rfl
    have ih := idxI_at (q := q) (ps := ps) (k := k) (fun j z hj hz => h (j + 1) z (by omega) (by simpa using hz)) (by simpa using hx) e
    unfold idxI; rw [if_neg (by rw [h0]; simp), ih, if_neg (by omega)]; omega
theorem idxI_none {q : Int → Bool} : ∀ {ps : List Int}, (∀ (j : Nat) z, j < ps.length → ps[j]? = some z → q z = false) → idxI q ps = -1
  | [], _ => rfl
  | p :: ps, h => by
    have h0 := h 0 p (by simp) rfl
    have ih := idxI_none (q := q) (ps := ps) (fun j z hj hz => h (j + 1) z (by simp; omega) (by simpa using hz))
    unfold idxI; rw [if_neg (by rw [h0]; simp), ih]; rfl
theorem idxI_pos (q : Int → Bool) (ps : List Int) : decide (0 ≤ idxI q ps) = ps.any q := by
  induction ps with
  | nil => rfl
  | cons p ps ih =>
    unfold idxI
    by_cases hp : q p = true
    · rw [if_pos hp]; simp [hp]
    · rw [if_neg hp]
      have hp' : q p = false := by simpa using hp
      rw [List.any_cons, hp', Bool.false_or, ← ih]
      by_cases h : idxI q ps < 0
      · rw [if_pos h]; exact decide_eq_decide.2 (by omega)
      · rw [if_neg h]; exact decide_eq_decide.2 (by omega)
theorem idxI_has (x : Int) (ps : List Int) : decide (0 ≤ idxI (fun z => decide (x = z)) ps) = ps.contains x := by
  rw [idxI_pos, Bool.eq_iff_iff, List.any_eq_true, List.contains_iff_mem]
  constructor
  · rintro ⟨z, hz, h⟩; simp at h; subst h; exact hz
  · intro h; exact ⟨x, h, by simp⟩
def cmpI (a b : Int) : Int := if a < b then -1 else if b < a then 1 else 0
theorem cmpL_take : ∀ {us ws : List Int} {k : Nat}, (∀ (j : Nat) x y, j < k → us[j]? = some x → ws[j]? = some y → x = y) → k ≤ us.length → k ≤ ws.length → cmpL us ws = cmpL (us.drop k) (ws.drop k)
  | us, ws, 0, _, _, _ => by simp
  | [], ws, k + 1, _, h, _ => by simp at h
  | a :: us, [], k + 1, _, _, h => by simp at h
  | a :: us, b :: ws, k + 1, h, h1, h2 => by
    have e : a = b := h 0 a b (by omega) rfl rfl
    have ih := cmpL_take (us := us) (ws := ws) (k := k) (fun j x y hj hx hy => h (j + 1) x y (by omega) (by simpa using hx) (by simpa using hy)) (by simpa using h1) (by simpa using h2)
    subst e
    rw [cmpL, if_neg (by omega), if_neg (by omega), ih]; rfl
theorem cmpL_ne {us ws : List Int} {k : Nat} {x y : Int} (h : ∀ (j : Nat) x y, j < k → us[j]? = some x → ws[j]? = some y → x = y) (hx : us[k]? = some x) (hy : ws[k]? = some y) (hne : cmpI x y ≠ 0) : cmpL us ws = cmpI x y := by
  have h1 := (List.getElem?_eq_some_iff.1 hx)
  have h2 := (List.getElem?_eq_some_iff.1 hy)
  obtain ⟨h1, e1⟩ := h1
  obtain ⟨h2, e2⟩ := h2
  rw [cmpL_take h (by omega) (by omega), List.drop_eq_getElem_cons h1, List.drop_eq_getElem_cons h2, e1, e2, cmpL]
  unfold cmpI at hne ⊢
  by_cases q1 : x < y
  · rw [if_pos q1, if_pos q1]
  · rw [if_neg q1, if_neg q1]
    by_cases q2 : y < x
    · rw [if_pos q2, if_pos q2]
    · rw [if_neg q1, if_neg q2] at hne; exact absurd rfl hne
theorem cmpI_zero {x y : Int} (h : cmpI x y = 0) : x = y := by
  unfold cmpI at h; split at h
  · omega
  · split at h <;> omega
theorem upto2 {us ws : List Int} {k : Nat} {x y : Int} (h : ∀ (j : Nat) x y, j < k → us[j]? = some x → ws[j]? = some y → x = y) (hx : us[k]? = some x) (hy : ws[k]? = some y) (e : cmpI x y = 0) : ∀ (j : Nat) x y, j < k + 1 → us[j]? = some x → ws[j]? = some y → x = y := fun j a b hj ha hb => by
  by_cases e1 : j = k
  · subst e1; rw [hx] at ha; rw [hy] at hb; cases ha; cases hb; exact cmpI_zero e
  · exact h j a b (by omega) ha hb
theorem cmpL_end {us ws : List Int} {k : Nat} (h : ∀ (j : Nat) x y, j < k → us[j]? = some x → ws[j]? = some y → x = y) (h1 : k ≤ us.length) (h2 : k ≤ ws.length) (he : us.length ≤ k ∨ ws.length ≤ k) :
    cmpL us ws = if us.length < ws.length then -1 else if ws.length < us.length then 1 else 0 := by
  rw [cmpL_take h h1 h2]
  by_cases q1 : us.length ≤ k
  · rw [List.drop_eq_nil_of_le q1]
    by_cases q2 : ws.length ≤ k
    · rw [List.drop_eq_nil_of_le q2, if_neg (by omega), if_neg (by omega)]; rfl
    · rw [if_pos (by omega), List.drop_eq_getElem_cons (by omega : k < ws.length)]; rfl
  · rw [if_neg (by omega), if_pos (by omega), List.drop_eq_getElem_cons (by omega : k < us.length), List.drop_eq_nil_of_le (by omega : ws.length ≤ k)]; rfl
set_option maxRecDepth 100000 in
set_option maxHeartbeats 8000000 in
theorem slIndex_any (A : Option Addr) (n c : Nat) (zs : List Int) (x : Int) (w : World) (ha : Rd w 1 A n (intsV zs)) (hn : n ≤ 1048576) :
    Calls Try.prog 158 #[.slice A n c, .int .i64 x] w fun e w' => e = .returned (.int .i64 (idxI (fun z => decide (x = z)) zs)) ∧ Below w.heap.size w w' := by
 have hl := rd_ints_len ha
 go_enter Try.func158, Try.ntmps158
 refine F.begin 19 [(0, .slice A n c), (1, .int .i64 x)] (fun U0 => ?_)
 refine wk fun K1 h1 => ?_
 refine Rq 1 ?_
 refine Fa (.int .i64 0) ?_
 apply F.es
 apply h1
 refine wk fun K2 h2 => ?_
 refine wk fun K3 h3 => ?_
 refine Rq 3 ?_
 refine Fv (.slice A n c) ?_
 refine Fq (.int .i64 (n : Int)) (r_len (A := A) (n := n) (c := c) rfl ek kk) ?_
 refine Fv (.int .i64 0) ?_
 apply F.es
 apply h3
 refine wp_block ?_
 refine loopK (fun am0 aa0 wl0 => ∃ (k : Nat) , Kn aa0 [(0, .slice A n c), (1, .int .i64 x), (4, .int .i64 0), (7, .int .i64 (n : Int)), (8, .int .i64 (k : Int))] 19 ∧ (am0 = n - k) ∧ (k ≤ n) ∧ (∀ j z, j < k → zs[j]? = some z → (fun z => decide (x = z)) z = false) ∧ (Below w.heap.size w wl0)) (n - 0) ?_ ?_
 ·exact ⟨0, Kn.of, rfl, (Nat.zero_le _), (fun j z hj => absurd hj (by omega)), (Below.refl _ _)⟩
 rintro am0 aa0 wl0 K4 h4 ⟨k, ⟨U0, rfl⟩, rfl, hk, hno, c1⟩
 refine wk fun K5 h5 => ?_
 refine Rq 1 ?_
 by_cases q2 : ((k : Int) : Int) < ((n : Int) : Int)
 ·refine Fq (.bool true) (r_lss (m := (k : Int)) (n := (n : Int)) rfl ek ek (dt q2)) ?_
  apply F.es
  apply h5
  refine wk fun K6 h6 => ?_
  refine wp_cond_true ek ?_
  apply wp_skip
  apply h6
  refine wk fun K7 h7 => ?_
  refine wp_block ?_
  refine wk fun K8 h8 => ?_
  refine Rq 2 ?_
  refine Fv (.int .i64 (k : Int)) ?_
  refine Fa (.int .i64 (k : Int)) ?_
  apply F.es
  apply h8
  refine wk fun K9 h9 => ?_
  refine Rq 6 ?_
  refine Fv (.int .i64 x) ?_
  refine Fv (.slice A n c) ?_
  refine Fv (.int .i64 (k : Int)) ?_
  obtain ⟨x3, hx4⟩ := get_of (zs := zs) (k := k) (by have := hl; omega)
  obtain ⟨b5, o6, hA7, hb8, hc9⟩ := Rd.elInt ha hx4
  refine Fq (.pointer (some ⟨b5, o6 + k, none⟩)) (r_idx1 (n := n) (c := c) (k := k) rfl ek hA7 kk kk (by have := hl; omega)) ?_
  refine Fl (.int .i64 x3) (eqS (later c1 hc9)) ?_
  by_cases q10 : (x : Int) = (x3 : Int)
  ·refine Fq (.bool true) (r_eql (m := x) (n := x3) rfl ek ek (dt q10)) ?_
   apply F.es
   apply h9
   refine wp_cond_true ek ?_
   refine wk fun K10 h10 => ?_
   refine Rq 2 ?_
   refine Fv (.int .i64 (k : Int)) ?_
   refine Fa (.int .i64 (k : Int)) ?_
   apply F.es
   apply h10
   refine wp_ret ?_
   try simp only [Exit.then, Exit.inBlock]
   refine ret1 (v := .int .i64 (k : Int)) rfl kk ?_
   exact ⟨by rw [idxI_at (q := (fun z => decide (x = z))) hno hx4 (dt (by omega))], c1⟩
  refine Fq (.bool false) (r_eql (m := x) (n := x3) rfl ek ek (df q10)) ?_
  apply F.es
  apply h9
  refine wp_cond_false ek ?_
  apply wp_skip
  apply h7
  refine Rq 2 ?_
  refine Fq (.int .i64 ((k + 1 : Nat) : Int)) (r_add (m := (k : Int)) (n := 1) (z := ((k + 1 : Nat) : Int)) rfl ek ek (by omega) (by omega)) ?_
  refine Fv (.int .i64 ((k + 1 : Nat) : Int)) ?_
  apply F.es
  exact h4 _ _ _ (by omega : (n - (k + 1)) < _) ⟨k + 1, Kn.of, rfl, (by omega), (upto_succ (Q := fun z => (fun z => decide (x = z)) z = false) hno hx4 (df (by omega))), c1⟩
 refine Fq (.bool false) (r_lss (m := (k : Int)) (n := (n : Int)) rfl ek ek (df q2)) ?_
 apply F.es
 apply h5
 refine wk fun K11 h11 => ?_
 refine wp_cond_false ek ?_
 refine wp_exit ?_
 apply h2
 refine wk fun K12 h12 => ?_
 refine Rq 1 ?_
 refine Fa (.int .i64 (-1)) ?_
 apply F.es
 apply h12
 refine wp_ret ?_
 try simp only [Exit.then]
 refine ret1 (v := .int .i64 (-1)) rfl kk ?_
 exact ⟨by rw [idxI_none (q := (fun z => decide (x = z))) (fun j z hj => hno j z (by omega))], c1⟩
set_option maxRecDepth 100000 in
set_option maxHeartbeats 8000000 in
theorem slContains_any (A : Option Addr) (n c : Nat) (zs : List Int) (x : Int) (w : World) (ha : Rd w 1 A n (intsV zs)) (hn : n ≤ 1048576) :
    Calls Try.prog 155 #[.slice A n c, .int .i64 x] w fun e w' => e = .returned (.bool (zs.contains x)) ∧ Below w.heap.size w w' := by
 have hl := rd_ints_len ha
 go_enter Try.func155, Try.ntmps155
 refine F.begin 9 [(0, .slice A n c), (1, .int .i64 x)] (fun U0 => ?_)
 refine wk fun K1 h1 => ?_
 refine Rq 1 ?_
 refine Fa (.bool false) ?_
 apply F.es
 apply h1
 refine wk fun K2 h2 => ?_
 refine W.region_plain (row := none) [(0, false), (1, false), (2, true), (3, false), (4, false)] kk ?_
 have s1 := SG.self w none
 refine Fv (.slice A n c) ?_
 refine Fv (.int .i64 x) ?_
 refine Fc [.slice A n c, .int .i64 x] (slIndex_any A n c zs x _ (Rk ha (Sb (Below.refl _ _) s1 nkk)) (by omega)) ?_
 rintro e w3 ⟨rfl, b2⟩
 have s4 := SG.of_below s1 b2
 refine ⟨_, rfl, s4, ?_⟩
 apply F.nx
 by_cases q5 : (idxI (fun z => decide (x = z)) zs : Int) ≥ (0 : Int)
 ·refine Fq (.bool true) (r_geq (m := idxI (fun z => decide (x = z)) zs) (n := 0) rfl ek ek (dt q5)) ?_
  refine Fa (.bool true) ?_
  apply F.es
  have c6 := (Sb (Below.refl _ _) s4 nkk)
  apply h2
  refine wp_ret ?_
  try simp only [Exit.then]
  refine ret1 (v := .bool true) rfl kk ?_
  exact ⟨by rw [← idxI_has, decide_eq_true q5], c6⟩
 refine Fq (.bool false) (r_geq (m := idxI (fun z => decide (x = z)) zs) (n := 0) rfl ek ek (df q5)) ?_
 refine Fa (.bool false) ?_
 apply F.es
 have c7 := (Sb (Below.refl _ _) s4 nkk)
 apply h2
 refine wp_ret ?_
 try simp only [Exit.then]
 refine ret1 (v := .bool false) rfl kk ?_
 exact ⟨by rw [← idxI_has, decide_eq_false q5], c7⟩
set_option maxRecDepth 100000 in
set_option maxHeartbeats 8000000 in
theorem isNaN_any (a : Int) (w : World) :
    Calls Try.prog 157 #[.int .i64 a] w fun e w' => e = .returned (.bool false) ∧ w = w' := by
 go_enter Try.func157, Try.ntmps157
 refine F.begin 6 [(0, .int .i64 a)] (fun U0 => ?_)
 refine wk fun K1 h1 => ?_
 refine Rq 1 ?_
 refine Fa (.bool false) ?_
 apply F.es
 apply h1
 refine wk fun K2 h2 => ?_
 refine Rq 4 ?_
 refine Fv (.int .i64 a) ?_
 refine Fv (.int .i64 a) ?_
 refine Fq (.bool false) (r_neq (m := a) (n := a) rfl ek ek (df (fun h => h rfl))) ?_
 refine Fa (.bool false) ?_
 apply F.es
 apply h2
 refine wp_ret ?_
 try simp only [Exit.then]
 refine ret1 (v := .bool false) rfl kk ?_
 exact ⟨rfl, rfl⟩
set_option maxRecDepth 100000 in
set_option maxHeartbeats 8000000 in
theorem cmpI_any (a b : Int) (w : World) :
    Calls Try.prog 154 #[.int .i64 a, .int .i64 b] w fun e w' => e = .returned (.int .i64 (cmpI a b)) ∧ Below w.heap.size w w' := by
 go_enter Try.func154, Try.ntmps154
 refine F.begin 20 [(0, .int .i64 a), (1, .int .i64 b)] (fun U0 => ?_)
 refine wk fun K1 h1 => ?_
 refine Rq 1 ?_
 refine Fa (.int .i64 0) ?_
 apply F.es
 apply h1
 refine wk fun K2 h2 => ?_
 refine W.region_plain (row := none) [(0, false), (1, true), (2, false)] kk ?_
 have s1 := SG.self w none
 refine Fv (.int .i64 a) ?_
 refine Fc [.int .i64 a] (isNaN_any a _) ?_
 rintro e w' ⟨rfl, rfl⟩
 refine ⟨_, rfl, s1, ?_⟩
 apply F.nx
 refine Fa (.bool false) ?_
 apply F.es
 have c4 := (Sb (Below.refl _ _) s1 nkk)
 apply h2
 refine wk fun K3 h3 => ?_
 refine W.region_plain (row := none) [(0, false), (1, true), (2, false)] kk ?_
 have s5 := SG.self w none
 refine Fv (.int .i64 b) ?_
 refine Fc [.int .i64 b] (isNaN_any b _) ?_
 rintro e w' ⟨rfl, rfl⟩
 refine ⟨_, rfl, s5, ?_⟩
 apply F.nx
 refine Fa (.bool false) ?_
 apply F.es
 have c8 := (Sb c4 s5 nkk)
 apply h3
 refine wk fun K4 h4 => ?_
 refine wk fun K5 h5 => ?_
 refine Rq 1 ?_
 refine Fv (.bool false) ?_
 apply F.es
 apply h5
 refine wp_cond_false ek ?_
 apply wp_skip
 apply h4
 refine wk fun K6 h6 => ?_
 refine wk fun K7 h7 => ?_
 refine Rq 1 ?_
 refine Fv (.bool false) ?_
 apply F.es
 apply h7
 refine wp_cond_false ek ?_
 apply wp_skip
 apply h6
 refine wk fun K8 h8 => ?_
 refine wk fun K9 h9 => ?_
 refine Rq 3 ?_
 refine Fv (.int .i64 a) ?_
 refine Fv (.int .i64 b) ?_
 by_cases q9 : (a : Int) < (b : Int)
 ·refine Fq (.bool true) (r_lss (m := a) (n := b) rfl ek ek (dt q9)) ?_
  apply F.es
  apply h9
  refine wp_cond_true ek ?_
  refine wk fun K10 h10 => ?_
  refine Rq 1 ?_
  refine Fa (.int .i64 (-1)) ?_
  apply F.es
  apply h10
  refine wp_ret ?_
  try simp only [Exit.then]
  refine ret1 (v := .int .i64 (-1)) rfl kk ?_
  exact ⟨by unfold cmpI; rw [if_pos (by omega)], c8⟩
 refine Fq (.bool false) (r_lss (m := a) (n := b) rfl ek ek (df q9)) ?_
 apply F.es
 apply h9
 refine wp_cond_false ek ?_
 apply wp_skip
 apply h8
 refine wk fun K11 h11 => ?_
 refine wk fun K12 h12 => ?_
 refine Rq 3 ?_
 refine Fv (.int .i64 a) ?_
 refine Fv (.int .i64 b) ?_
 by_cases q10 : (a : Int) > (b : Int)
 ·refine Fq (.bool true) (r_gtr (m := a) (n := b) rfl ek ek (dt q10)) ?_
  apply F.es
  apply h12
  refine wp_cond_true ek ?_
  refine wk fun K13 h13 => ?_
  refine Rq 1 ?_
  refine Fa (.int .i64 1) ?_
  apply F.es
  apply h13
  refine wp_ret ?_
  try simp only [Exit.then]
  refine ret1 (v := .int .i64 1) rfl kk ?_
  exact ⟨by unfold cmpI; rw [if_neg (by omega), if_pos (by omega)], c8⟩
 refine Fq (.bool false) (r_gtr (m := a) (n := b) rfl ek ek (df q10)) ?_
 apply F.es
 apply h12
 refine wp_cond_false ek ?_
 apply wp_skip
 apply h11
 refine wk fun K14 h14 => ?_
 refine Rq 1 ?_
 refine Fa (.int .i64 0) ?_
 apply F.es
 apply h14
 refine wp_ret ?_
 try simp only [Exit.then]
 refine ret1 (v := .int .i64 0) rfl kk ?_
 exact ⟨by unfold cmpI; rw [if_neg (by omega), if_neg (by omega)], c8⟩
set_option maxRecDepth 100000 in
set_option maxHeartbeats 8000000 in
theorem slCompare_any (A : Option Addr) (n c : Nat) (zs : List Int) (A2 : Option Addr) (n2 c2 : Nat) (ys : List Int) (w : World) (ha : Rd w 1 A n (intsV zs)) (hn : n ≤ 1048576) (hb : Rd w 1 A2 n2 (intsV ys)) (hn2 : n2 ≤ 1048576) :
    Calls Try.prog 145 #[.slice A n c, .slice A2 n2 c2] w fun e w' => e = .returned (.int .i64 (cmpL zs ys)) ∧ Below w.heap.size w w' := by
 have hl := rd_ints_len ha
 have hl2 := rd_ints_len hb
 go_enter Try.func145, Try.ntmps145
 refine F.begin 36 [(0, .slice A n c), (1, .slice A2 n2 c2)] (fun U0 => ?_)
 refine wk fun K1 h1 => ?_
 refine Rq 1 ?_
 refine Fa (.int .i64 0) ?_
 apply F.es
 apply h1
 refine wk fun K2 h2 => ?_
 refine wk fun K3 h3 => ?_
 refine Rq 3 ?_
 refine Fv (.slice A n c) ?_
 refine Fq (.int .i64 (n : Int)) (r_len (A := A) (n := n) (c := c) rfl ek kk) ?_
 refine Fv (.int .i64 0) ?_
 apply F.es
 apply h3
 refine wp_block ?_
 refine loopK (fun am0 aa0 wl0 => ∃ (k : Nat) , Kn aa0 [(0, .slice A n c), (1, .slice A2 n2 c2), (4, .int .i64 0), (9, .slice A n c), (10, .int .i64 (n : Int)), (11, .int .i64 (k : Int))] 36 ∧ (am0 = n - k) ∧ (k ≤ n) ∧ (k ≤ n2) ∧ (∀ (j : Nat) x y, j < k → zs[j]? = some x → ys[j]? = some y → x = y) ∧ (Below w.heap.size w wl0)) (n - 0) ?_ ?_
 ·exact ⟨0, Kn.of, rfl, (Nat.zero_le _), (Nat.zero_le _), (fun j x y hj => absurd hj (by omega)), (Below.refl _ _)⟩
 rintro am0 aa0 wl0 K4 h4 ⟨k, ⟨U0, rfl⟩, rfl, hk, hk2, heq, c1⟩
 refine wk fun K5 h5 => ?_
 refine Rq 1 ?_
 by_cases q2 : ((k : Int) : Int) < ((n : Int) : Int)
 ·refine Fq (.bool true) (r_lss (m := (k : Int)) (n := (n : Int)) rfl ek ek (dt q2)) ?_
  apply F.es
  apply h5
  refine wk fun K6 h6 => ?_
  refine wp_cond_true ek ?_
  apply wp_skip
  apply h6
  refine wk fun K7 h7 => ?_
  refine wp_block ?_
  refine wk fun K8 h8 => ?_
  refine Rq 5 ?_
  refine Fv (.int .i64 (k : Int)) ?_
  obtain ⟨x3, hx4⟩ := get_of (zs := zs) (k := k) (by have := hl; omega)
  obtain ⟨b5, o6, hA7, hb8, hc9⟩ := Rd.elInt ha hx4
  refine Fq (.pointer (some ⟨b5, o6 + k, none⟩)) (r_idx1 (n := n) (c := c) (k := k) rfl ek hA7 kk kk (by have := hl; omega)) ?_
  refine Fl (.int .i64 x3) (eqS (later c1 hc9)) ?_
  refine Fa (.int .i64 (k : Int)) ?_
  refine Fa (.int .i64 x3) ?_
  apply F.es
  apply h8
  refine wk fun K9 h9 => ?_
  refine wk fun K10 h10 => ?_
  refine Rq 4 ?_
  refine Fv (.int .i64 (k : Int)) ?_
  refine Fv (.slice A2 n2 c2) ?_
  refine Fq (.int .i64 (n2 : Int)) (r_len (A := A2) (n := n2) (c := c2) rfl ek kk) ?_
  by_cases q10 : ((k : Int) : Int) ≥ ((n2 : Int) : Int)
  ·refine Fq (.bool true) (r_geq (m := (k : Int)) (n := (n2 : Int)) rfl ek ek (dt q10)) ?_
   apply F.es
   apply h10
   refine wp_cond_true ek ?_
   refine wk fun K11 h11 => ?_
   refine Rq 1 ?_
   refine Fa (.int .i64 1) ?_
   apply F.es
   apply h11
   refine wp_ret ?_
   try simp only [Exit.then, Exit.inBlock]
   refine ret1 (v := .int .i64 1) rfl kk ?_
   exact ⟨by rw [cmpL_end heq (by omega) (by omega) (by omega), if_neg (by omega), if_pos (by omega)], c1⟩
  refine Fq (.bool false) (r_geq (m := (k : Int)) (n := (n2 : Int)) rfl ek ek (df q10)) ?_
  apply F.es
  apply h10
  refine wp_cond_false ek ?_
  apply wp_skip
  apply h9
  refine wk fun K12 h12 => ?_
  refine Rq 5 ?_
  refine Fv (.slice A2 n2 c2) ?_
  refine Fv (.int .i64 (k : Int)) ?_
  obtain ⟨x11, hx12⟩ := get_of (zs := ys) (k := k) (by have := hl2; omega)
  obtain ⟨b13, o14, hA15, hb16, hc17⟩ := Rd.elInt hb hx12
  refine Fq (.pointer (some ⟨b13, o14 + k, none⟩)) (r_idx1 (n := n2) (c := c2) (k := k) rfl ek hA15 kk kk (by have := hl2; omega)) ?_
  refine Fl (.int .i64 x11) (eqS (later c1 hc17)) ?_
  refine Fa (.int .i64 x11) ?_
  apply F.es
  apply h12
  refine wk fun K13 h13 => ?_
  refine W.region_plain (row := none) [(0, false), (1, false), (2, true), (3, false)] kk ?_
  have s18 := SG.self wl0 none
  refine Fv (.int .i64 x3) ?_
  refine Fv (.int .i64 x11) ?_
  refine Fc [.int .i64 x3, .int .i64 x11] (cmpI_any x3 x11 _) ?_
  rintro e w20 ⟨rfl, b19⟩
  have s21 := SG.of_below s18 b19
  refine ⟨_, rfl, s21, ?_⟩
  apply F.nx
  refine Fa (.int .i64 (cmpI x3 x11)) ?_
  apply F.es
  have c22 := (Sb c1 s21 nkk)
  apply h13
  refine wk fun K14 h14 => ?_
  refine Rq 2 ?_
  refine Fv (.int .i64 (cmpI x3 x11)) ?_
  by_cases q23 : (cmpI x3 x11 : Int) ≠ (0 : Int)
  ·refine Fq (.bool true) (r_neq (m := cmpI x3 x11) (n := 0) rfl ek ek (dt q23)) ?_
   apply F.es
   apply h14
   refine wp_cond_true ek ?_
   refine wk fun K15 h15 => ?_
   refine Rq 2 ?_
   refine Fv (.int .i64 (cmpI x3 x11)) ?_
   refine Fa (.int .i64 (cmpI x3 x11)) ?_
   apply F.es
   apply h15
   refine wp_ret ?_
   try simp only [Exit.then, Exit.inBlock]
   refine ret1 (v := .int .i64 (cmpI x3 x11)) rfl kk ?_
   exact ⟨by rw [cmpL_ne heq hx4 hx12 (by omega)], c22⟩
  refine Fq (.bool false) (r_neq (m := cmpI x3 x11) (n := 0) rfl ek ek (df q23)) ?_
  apply F.es
  apply h14
  refine wp_cond_false ek ?_
  apply wp_skip
  apply h7
  refine Rq 2 ?_
  refine Fq (.int .i64 ((k + 1 : Nat) : Int)) (r_add (m := (k : Int)) (n := 1) (z := ((k + 1 : Nat) : Int)) rfl ek ek (by omega) (by omega)) ?_
  refine Fv (.int .i64 ((k + 1 : Nat) : Int)) ?_
  apply F.es
  exact h4 _ _ _ (by omega : (n - (k + 1)) < _) ⟨k + 1, Kn.of, rfl, (by omega), (by omega), (upto2 heq hx4 hx12 (by omega)), c22⟩
 refine Fq (.bool false) (r_lss (m := (k : Int)) (n := (n : Int)) rfl ek ek (df q2)) ?_
 apply F.es
 apply h5
 refine wk fun K16 h16 => ?_
 refine wp_cond_false ek ?_
 refine wp_exit ?_
 apply h2
 refine wk fun K17 h17 => ?_
 refine wk fun K18 h18 => ?_
 refine Rq 5 ?_
 refine Fv (.slice A n c) ?_
 refine Fq (.int .i64 (n : Int)) (r_len (A := A) (n := n) (c := c) rfl ek kk) ?_
 refine Fv (.slice A2 n2 c2) ?_
 refine Fq (.int .i64 (n2 : Int)) (r_len (A := A2) (n := n2) (c := c2) rfl ek kk) ?_
 by_cases q24 : ((n : Int) : Int) < ((n2 : Int) : Int)
 ·refine Fq (.bool true) (r_lss (m := (n : Int)) (n := (n2 : Int)) rfl ek ek (dt q24)) ?_
  apply F.es
  apply h18
  refine wp_cond_true ek ?_
  refine wk fun K19 h19 => ?_
  refine Rq 1 ?_
  refine Fa (.int .i64 (-1)) ?_
  apply F.es
  apply h19
  refine wp_ret ?_
  try simp only [Exit.then]
  refine ret1 (v := .int .i64 (-1)) rfl kk ?_
  exact ⟨by rw [cmpL_end heq (by omega) (by omega) (by omega), if_pos (by omega)], c1⟩
 refine Fq (.bool false) (r_lss (m := (n : Int)) (n := (n2 : Int)) rfl ek ek (df q24)) ?_
 apply F.es
 apply h18
 refine wp_cond_false ek ?_
 apply wp_skip
 apply h17
 refine wk fun K20 h20 => ?_
 refine Rq 1 ?_
 refine Fa (.int .i64 0) ?_
 apply F.es
 apply h20
 refine wp_ret ?_
 try simp only [Exit.then]
 refine ret1 (v := .int .i64 0) rfl kk ?_
 exact ⟨by rw [cmpL_end heq (by omega) (by omega) (by omega), if_neg (by omega), if_neg (by omega)], c1⟩
set_option maxRecDepth 100000 in
set_option maxHeartbeats 8000000 in
theorem slIndexFunc_any (A : Option Addr) (n c : Nat) (zs : List Int) (g : FuncId) (lb : Array Value) (q : Int → Bool) (w : World) (ha : Rd w 1 A n (intsV zs)) (hn : n ≤ 1048576) (he : enters Try.prog g = true) (HG : ∀ W (z : Int), Below w.heap.size w W → Calls Try.prog g (#[.int .i64 z] ++ lb) W fun e w' => e = .returned (.bool (q z)) ∧ Below W.heap.size W w') :
    Calls Try.prog 152 #[.slice A n c, .func (.func g) #[] lb] w fun e w' => e = .returned (.int .i64 (idxI q zs)) ∧ Below w.heap.size w w' := by
 have hl := rd_ints_len ha
 go_enter Try.func152, Try.ntmps152
 refine F.begin 19 [(0, .slice A n c), (1, .func (.func g) #[] lb)] (fun U0 => ?_)
 refine wk fun K1 h1 => ?_
 refine Rq 1 ?_
 refine Fa (.int .i64 0) ?_
 apply F.es
 apply h1
 refine wk fun K2 h2 => ?_
 refine wk fun K3 h3 => ?_
 refine Rq 3 ?_
 refine Fv (.slice A n c) ?_
 refine Fq (.int .i64 (n : Int)) (r_len (A := A) (n := n) (c := c) rfl ek kk) ?_
 refine Fv (.int .i64 0) ?_
 apply F.es
 apply h3
 refine wp_block ?_
 refine loopK (fun am0 aa0 wl0 => ∃ (k : Nat) , Kn aa0 [(0, .slice A n c), (1, .func (.func g) #[] lb), (4, .int .i64 0), (7, .int .i64 (n : Int)), (8, .int .i64 (k : Int))] 19 ∧ (am0 = n - k) ∧ (k ≤ n) ∧ (∀ j z, j < k → zs[j]? = some z → q z = false) ∧ (Below w.heap.size w wl0)) (n - 0) ?_ ?_
 ·exact ⟨0, Kn.of, rfl, (Nat.zero_le _), (fun j z hj => absurd hj (by omega)), (Below.refl _ _)⟩
 rintro am0 aa0 wl0 K4 h4 ⟨k, ⟨U0, rfl⟩, rfl, hk, hno, c1⟩
 refine wk fun K5 h5 => ?_
 refine Rq 1 ?_
 by_cases q2 : ((k : Int) : Int) < ((n : Int) : Int)
 ·refine Fq (.bool true) (r_lss (m := (k : Int)) (n := (n : Int)) rfl ek ek (dt q2)) ?_
  apply F.es
  apply h5
  refine wk fun K6 h6 => ?_
  refine wp_cond_true ek ?_
  apply wp_skip
  apply h6
  refine wk fun K7 h7 => ?_
  refine wp_block ?_
  refine wk fun K8 h8 => ?_
  refine Rq 2 ?_
  refine Fv (.int .i64 (k : Int)) ?_
  refine Fa (.int .i64 (k : Int)) ?_
  apply F.es
  apply h8
  refine wk fun K9 h9 => ?_
  refine W.region_plain (row := none) [(0, false), (1, false), (2, false), (3, false), (4, false), (5, true)] kk ?_
  have s3 := SG.self wl0 none
  refine Fv (.func (.func g) #[] lb) ?_
  refine Fv (.slice A n c) ?_
  refine Fv (.int .i64 (k : Int)) ?_
  obtain ⟨x4, hx5⟩ := get_of (zs := zs) (k := k) (by have := hl; omega)
  obtain ⟨b6, o7, hA8, hb9, hc10⟩ := Rd.elInt ha hx5
  refine Fq (.pointer (some ⟨b6, o7 + k, none⟩)) (r_idx1 (n := n) (c := c) (k := k) rfl ek hA8 kk kk (by have := hl; omega)) ?_
  refine Fl (.int .i64 x4) (sgS (later c1 hc10) (by simp)) ?_
  refine W.scv (vs := [.int .i64 x4]) (g := g) (lb := lb) rfl rfl kk kk he kk rfl (HG _ x4 ((Sb c1 s3 nkk))) ?_
  rintro e w12 ⟨rfl, b11⟩
  have s13 := SG.of_below s3 b11
  refine ⟨_, rfl, s13, ?_⟩
  apply F.nx
  rcases Bool.eq_false_or_eq_true (q x4) with q14 | q14
  ·rw [q14]
   apply F.es
   have c15 := (Sb c1 s13 nkk)
   apply h9
   refine wp_cond_true ek ?_
   refine wk fun K10 h10 => ?_
   refine Rq 2 ?_
   refine Fv (.int .i64 (k : Int)) ?_
   refine Fa (.int .i64 (k : Int)) ?_
   apply F.es
   apply h10
   refine wp_ret ?_
   try simp only [Exit.then, Exit.inBlock]
   refine ret1 (v := .int .i64 (k : Int)) rfl kk ?_
   exact ⟨by rw [idxI_at hno hx5 q14], c15⟩
  rw [q14]
  apply F.es
  have c16 := (Sb c1 s13 nkk)
  apply h9
  refine wp_cond_false ek ?_
  apply wp_skip
  apply h7
  refine Rq 2 ?_
  refine Fq (.int .i64 ((k + 1 : Nat) : Int)) (r_add (m := (k : Int)) (n := 1) (z := ((k + 1 : Nat) : Int)) rfl ek ek (by omega) (by omega)) ?_
  refine Fv (.int .i64 ((k + 1 : Nat) : Int)) ?_
  apply F.es
  exact h4 _ _ _ (by omega : (n - (k + 1)) < _) ⟨k + 1, Kn.of, rfl, (by omega), (upto_succ (Q := fun z => q z = false) hno hx5 q14), c16⟩
 refine Fq (.bool false) (r_lss (m := (k : Int)) (n := (n : Int)) rfl ek ek (df q2)) ?_
 apply F.es
 apply h5
 refine wk fun K11 h11 => ?_
 refine wp_cond_false ek ?_
 refine wp_exit ?_
 apply h2
 refine wk fun K12 h12 => ?_
 refine Rq 1 ?_
 refine Fa (.int .i64 (-1)) ?_
 apply F.es
 apply h12
 refine wp_ret ?_
 try simp only [Exit.then]
 refine ret1 (v := .int .i64 (-1)) rfl kk ?_
 exact ⟨by rw [idxI_none (fun j z hj => hno j z (by omega))], c1⟩
set_option maxRecDepth 100000 in
set_option maxHeartbeats 8000000 in
theorem slContainsFunc_any (A : Option Addr) (n c : Nat) (zs : List Int) (g : FuncId) (lb : Array Value) (q : Int → Bool) (w : World) (ha : Rd w 1 A n (intsV zs)) (hn : n ≤ 1048576) (he : enters Try.prog g = true) (HG : ∀ W (z : Int), Below w.heap.size w W → Calls Try.prog g (#[.int .i64 z] ++ lb) W fun e w' => e = .returned (.bool (q z)) ∧ Below W.heap.size W w') :
    Calls Try.prog 139 #[.slice A n c, .func (.func g) #[] lb] w fun e w' => e = .returned (.bool (zs.any q)) ∧ Below w.heap.size w w' := by
 have hl := rd_ints_len ha
 go_enter Try.func139, Try.ntmps139
 refine F.begin 9 [(0, .slice A n c), (1, .func (.func g) #[] lb)] (fun U0 => ?_)
 refine wk fun K1 h1 => ?_
 refine Rq 1 ?_
 refine Fa (.bool false) ?_
 apply F.es
 apply h1
 refine wk fun K2 h2 => ?_
 refine W.region_plain (row := none) [(0, false), (1, false), (2, true), (3, false), (4, false)] kk ?_
 have s1 := SG.self w none
 refine Fv (.slice A n c) ?_
 refine Fv (.func (.func g) #[] lb) ?_
 refine Fc [.slice A n c, .func (.func g) #[] lb] (slIndexFunc_any A n c zs g lb q _ (Rk ha (Sb (Below.refl _ _) s1 nkk)) (by omega) he (fun W v hW => HG W v (((Sb (Below.refl _ _) s1 nkk)).trans (hW.mono ((Sb (Below.refl _ _) s1 nkk)).size)))) ?_
 rintro e w3 ⟨rfl, b2⟩
 have s4 := SG.of_below s1 b2
 refine ⟨_, rfl, s4, ?_⟩
 apply F.nx
 by_cases q5 : (idxI q zs : Int) ≥ (0 : Int)
 ·refine Fq (.bool true) (r_geq (m := idxI q zs) (n := 0) rfl ek ek (dt q5)) ?_
  refine Fa (.bool true) ?_
  apply F.es
  have c6 := (Sb (Below.refl _ _) s4 nkk)
  apply h2
  refine wp_ret ?_
  try simp only [Exit.then]
  refine ret1 (v := .bool true) rfl kk ?_
  exact ⟨by rw [← idxI_pos, decide_eq_true q5], c6⟩
 refine Fq (.bool false) (r_geq (m := idxI q zs) (n := 0) rfl ek ek (df q5)) ?_
 refine Fa (.bool false) ?_
 apply F.es
 have c7 := (Sb (Below.refl _ _) s4 nkk)
 apply h2
 refine wp_ret ?_
 try simp only [Exit.then]
 refine ret1 (v := .bool false) rfl kk ?_
 exact ⟨by rw [← idxI_pos, decide_eq_false q5], c7⟩
end Go.Proofs.Ytdbgfejeleafgaa
