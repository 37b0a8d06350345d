/- The small functions of the laws over drawn code. -/
import Derived.Test.YtdlcldaogcbnlaaDoorNetC
import Derived.Test.YtdlcldaogcbnlaaDoorSch8
import Derived.Test.YtdlcldaogcbnlaaDoorCurP
import Derived.Test.YtdlcldaogcbnlaaDoorFr2
namespace Go.Proofs.YtdlcldaogcbnlaaDoor
open Go.RowKit
set_option linter.unusedVariables false
set_option linter.unusedSimpArgs false

set_option maxRecDepth 100000 in
set_option maxHeartbeats 8000000 in
theorem vBig_any (A : Option Addr) (n c : Nat) (zs : List Int) (w : World) (hcode : Rd w 1 A n (bytesV zs)) (hz : ∀ z ∈ zs, 0 ≤ z ∧ z < 256) (hn : n ≤ 9223372036854775807) :
    Calls Tryd.prog 11 #[.slice A n c] w fun e w' => e = .returned (.bool (decide (65536 < n))) ∧ Below w.heap.size w w' := by
 have hl := rd_bytes_len hcode
 go_enter Tryd.func11, Tryd.ntmps11
 refine F.begin 6 [(0, .slice A n c)] (fun U0 => ?_)
 refine wk fun K1 h1 => ?_
 refine W.region_quiet [(0, false)] kk ?_
 refine Fa (.bool false) ?_
 refine F.es ?_
 refine h1 _ _ ?_
 refine wk fun K2 h2 => ?_
 refine W.region_quiet [(0, false), (1, false), (2, false), (3, false)] kk ?_
 refine Fv (.slice A n c) ?_
 refine Fq (.int .i64 (n : Int)) (r_len (A := A) (n := n) (c := c) rfl ek kk) ?_
 by_cases q1 : ((n : Int) : Int) > (65536 : Int)
 ·refine Fq (.bool true) (r_gtr (m := (n : Int)) (n := 65536) rfl ek ek (decide_eq_true q1)) ?_
  refine Fa (.bool true) ?_
  refine F.es ?_
  refine h2 _ _ ?_
  refine wp_ret ?_
  try simp only [Exit.then]
  refine ret1 (v := .bool true) rfl kk ?_
  exact ⟨by rw [decide_eq_true (by omega)], (Below.refl _ _)⟩
 refine Fq (.bool false) (r_gtr (m := (n : Int)) (n := 65536) rfl ek ek (decide_eq_false q1)) ?_
 refine Fa (.bool false) ?_
 refine F.es ?_
 refine h2 _ _ ?_
 refine wp_ret ?_
 try simp only [Exit.then]
 refine ret1 (v := .bool false) rfl kk ?_
 exact ⟨by rw [decide_eq_false (by omega)], (Below.refl _ _)⟩

set_option maxRecDepth 100000 in
set_option maxHeartbeats 8000000 in
theorem vHas_any (A : Option Addr) (n c : Nat) (zs : List Int) (x : Int) (w : World) (ha : Rd w 1 A n (intsV zs)) (hn : n ≤ 9223372036854775807) :
    Calls Tryd.prog 23 #[.slice A n c, .int .i64 x] w fun e w' => e = .returned (.bool (zs.contains x)) ∧ Below w.heap.size w w' := by
 have hl := rd_ints_len ha
 go_enter Tryd.func23, Tryd.ntmps23
 refine F.begin 18 [(0, .slice A n c), (1, .int .i64 x)] (fun U0 => ?_)
 refine wk fun K1 h1 => ?_
 refine W.region_quiet [(0, false)] kk ?_
 refine Fa (.bool false) ?_
 refine F.es ?_
 refine h1 _ _ ?_
 refine wk fun K2 h2 => ?_
 refine wk fun K3 h3 => ?_
 refine W.region_quiet [(0, false)] kk ?_
 refine Fa (.int .i64 0) ?_
 refine F.es ?_
 refine h3 _ _ ?_
 refine wp_block ?_
 refine loopK (fun am0 aa0 wl0 => ∃ (i : Nat) , Kn aa0 [(0, .slice A n c), (1, .int .i64 x), (4, .bool false), (5, .int .i64 (i : Int))] 18 ∧ (am0 = n - i) ∧ (i ≤ n) ∧ (∀ j z, j < i → zs[j]? = some z → z ≠ x) ∧ (Below w.heap.size w wl0)) (n - 0) ?_ ?_
 ·exact ⟨0, Kn.of, rfl, (Nat.zero_le _), upto_zero, (Below.refl _ _)⟩
 rintro am0 aa0 wl0 K4 h4 ⟨i, ⟨U0, rfl⟩, rfl, hi, hno, c1⟩
 refine wk fun K5 h5 => ?_
 refine wk fun K6 h6 => ?_
 refine W.region_quiet [(0, false), (1, false), (2, false), (3, false)] kk ?_
 refine Fv (.int .i64 (i : Int)) ?_
 refine Fv (.slice A n c) ?_
 refine Fq (.int .i64 (n : Int)) (r_len (A := A) (n := n) (c := c) rfl ek kk) ?_
 by_cases q2 : ((i : Int) : Int) < ((n : Int) : Int)
 ·refine Fq (.bool true) (r_lss (m := (i : Int)) (n := (n : Int)) rfl ek ek (decide_eq_true q2)) ?_
  refine F.es ?_
  refine h6 _ _ ?_
  refine wp_cond_true ek ?_
  refine wp_skip ?_
  refine h5 _ _ ?_
  refine wk fun K7 h7 => ?_
  refine wp_block ?_
  refine wk fun K8 h8 => ?_
  refine W.region_quiet [(0, false), (1, false), (2, false), (3, false), (4, false), (5, false)] kk ?_
  refine Fv (.slice A n c) ?_
  refine Fv (.int .i64 (i : Int)) ?_
  obtain ⟨x3, hx4⟩ := get_of (zs := zs) (k := i) (by have := hl; omega)
  obtain ⟨b5, o6, hA7, hb8, hc9⟩ := Rd.elInt ha hx4
  refine Fq (.pointer (some ⟨b5, o6 + i, none⟩)) (r_idx1 (n := n) (c := c) (k := i) rfl ek hA7 kk kk (by have := hl; omega)) ?_
  refine Fl (.int .i64 x3) (eqS (later c1 hc9)) ?_
  refine Fv (.int .i64 x) ?_
  by_cases q10 : (x3 : Int) = (x : Int)
  ·refine Fq (.bool true) (r_eql (m := x3) (n := x) rfl ek ek (decide_eq_true q10)) ?_
   refine F.es ?_
   refine h8 _ _ ?_
   refine wp_cond_true ek ?_
   refine wk fun K9 h9 => ?_
   refine W.region_quiet [(0, false)] kk ?_
   refine Fa (.bool true) ?_
   refine F.es ?_
   refine h9 _ _ ?_
   refine wp_ret ?_
   try simp only [Exit.then, Exit.inBlock]
   refine ret1 (v := .bool true) rfl kk ?_
   exact ⟨by rw [← has_yes hx4 q10], c1⟩
  refine Fq (.bool false) (r_eql (m := x3) (n := x) rfl ek ek (decide_eq_false q10)) ?_
  refine F.es ?_
  refine h8 _ _ ?_
  refine wp_cond_false ek ?_
  refine wp_skip ?_
  refine h7 _ _ ?_
  refine W.region_quiet [(0, false), (1, false), (2, false)] kk ?_
  refine Fv (.int .i64 (i : Int)) ?_
  refine Fq (.int .i64 ((i + 1 : Nat) : Int)) (r_add (m := (i : Int)) (n := 1) (z := ((i + 1 : Nat) : Int)) rfl ek ek (by omega) (by omega)) ?_
  refine Fa (.int .i64 ((i + 1 : Nat) : Int)) ?_
  refine F.es ?_
  exact h4 _ _ _ (by omega : (n - (i + 1)) < _) ⟨i + 1, Kn.of, rfl, (by omega), (upto_succ hno hx4 q10), c1⟩
 refine Fq (.bool false) (r_lss (m := (i : Int)) (n := (n : Int)) rfl ek ek (decide_eq_false q2)) ?_
 refine F.es ?_
 refine h6 _ _ ?_
 refine wp_cond_false ek ?_
 refine wp_exit ?_
 refine h2 _ _ ?_
 refine wk fun K10 h10 => ?_
 refine W.region_quiet [(0, false)] kk ?_
 refine Fa (.bool false) ?_
 refine F.es ?_
 refine h10 _ _ ?_
 refine wp_ret ?_
 try simp only [Exit.then]
 refine ret1 (v := .bool false) rfl kk ?_
 exact ⟨by rw [← has_no hl hno (by omega)], c1⟩

end Go.Proofs.YtdlcldaogcbnlaaDoor
