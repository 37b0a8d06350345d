/- The cursor's functions: next, pick, one, of, among. -/
import Derived.Test.YtdlcldaogcbnlaaDoorCurP
import Derived.Test.YtdlcldaogcbnlaaDoorElI
import Derived.Test.YtdlcldaogcbnlaaDoorFr2
namespace Go.Proofs.YtdlcldaogcbnlaaDoor
open Go.RowKit
set_option linter.unusedVariables false
set_option linter.unusedSimpArgs false

set_option maxRecDepth 100000 in
set_option maxHeartbeats 8000000 in
theorem next_raw (B : Nat) (A : Option Addr) (n c : Nat) (zs : List Int) (at_ : Nat) (sd : Int) (w : World) (hB : w.heap[B]? = some (.cells #[.slice A n c, .int .i64 ((at_ : Nat) : Int), .int .u64 sd] 66 (0, 0))) (hrd : Rd w 1 A n (bytesV zs)) (hsp : Sp A n (some B)) (hz : ∀ z ∈ zs, 0 ≤ z ∧ z < 256) (hn : n ≤ 4611686018427387904) (hat : at_ ≤ 4611686018427387904) :
    Calls Tryd.prog 84 #[.pointer (some ⟨B, 0, none⟩)] w fun e w' => ∃ (x sd' : Int), e = .returned (.int .i64 x) ∧ (0 ≤ x ∧ x < 256) ∧ w'.heap[B]? = some (.cells #[.slice A n c, .int .i64 ((at_ + 1 : Nat) : Int), .int .u64 sd'] 66 (0, 0)) ∧ w.grownBy w' (some B) := by
 have hl := rd_bytes_len hrd
 go_enter Tryd.func84, Tryd.ntmps84
 refine F.begin 62 [(0, .pointer (some ⟨B, 0, none⟩))] (fun U0 => ?_)
 refine wk fun K1 h1 => ?_
 refine W.region_quiet [(0, false)] kk ?_
 refine Fa (.int .i64 0) ?_
 refine F.es ?_
 refine h1 _ _ ?_
 refine wk fun K2 h2 => ?_
 refine W.region_quiet [(0, false)] kk ?_
 refine Fa (.int .i64 0) ?_
 refine F.es ?_
 refine h2 _ _ ?_
 refine wk fun K3 h3 => ?_
 refine wk fun K4 h4 => ?_
 refine W.region_sch (row := none) (Sch.of [(0, false), (1, false), (2, false), (3, false), (4, false), (5, false), (6, false), (7, false), (8, false), (9, false)]) kk kk (fun _ d _ _ _ h => by cases d <;> exact h) kk (fun w1 e2 s3 => ?_)
 refine Fv (.pointer (some ⟨B, 0, none⟩)) ?_
 refine Fq (.pointer (some ⟨B, 0, none⟩)) (r_nilCheck rfl ek) ?_
 refine Fq (.pointer (some ⟨B, 1, none⟩)) (r_field (k := 1) rfl ek kk) ?_
 refine Fl (.int .i64 (at_ : Int)) (sgS (blk_cell (j := 1) hB kk) (Option.some_ne_none _)) ?_
 refine Fv (.pointer (some ⟨B, 0, none⟩)) ?_
 refine Fq (.pointer (some ⟨B, 0, none⟩)) (r_nilCheck rfl ek) ?_
 refine Fq (.pointer (some ⟨B, 0, none⟩)) (r_field0 rfl ek kk) ?_
 refine Fl (.slice A n c) (sgS (blk_cell (j := 0) hB kk) (Option.some_ne_none _)) ?_
 refine Fq (.int .i64 (n : Int)) (r_len (A := A) (n := n) (c := c) rfl ek kk) ?_
 by_cases q4 : ((at_ : Int) : Int) < ((n : Int) : Int)
 ·refine Fq (.bool true) (r_lss (m := (at_ : Int)) (n := (n : Int)) rfl ek ek (decide_eq_true q4)) ?_
  refine F.es ?_
  have hB := SG.blk s3 hB (Option.some_ne_none _)
  have c5 := (SG.fr (B := B) (World.grownBy.refl _ _) s3 (fun kq e => by cases e))
  have rd6 := Rd.kept hrd (SG.below s3)
  refine h4 _ _ ?_
  refine wp_cond_true ek ?_
  refine W.region_sch (row := none) (Sch.of [(0, false), (1, false), (2, false), (3, false), (4, false), (5, false), (6, false), (7, false), (8, false), (9, false), (10, false), (11, false)]) kk kk (fun _ d _ _ _ h => by cases d <;> exact h) kk (fun w7 e8 s9 => ?_)
  refine Fv (.pointer (some ⟨B, 0, none⟩)) ?_
  refine Fq (.pointer (some ⟨B, 0, none⟩)) (r_nilCheck rfl ek) ?_
  refine Fq (.pointer (some ⟨B, 0, none⟩)) (r_field0 rfl ek kk) ?_
  refine Fl (.slice A n c) (sgS (blk_cell (j := 0) hB kk) (Option.some_ne_none _)) ?_
  refine Fv (.pointer (some ⟨B, 0, none⟩)) ?_
  refine Fq (.pointer (some ⟨B, 0, none⟩)) (r_nilCheck rfl ek) ?_
  refine Fq (.pointer (some ⟨B, 1, none⟩)) (r_field (k := 1) rfl ek kk) ?_
  refine Fl (.int .i64 (at_ : Int)) (sgS (blk_cell (j := 1) hB kk) (Option.some_ne_none _)) ?_
  obtain ⟨x10, hx11⟩ := get_of (zs := zs) (k := at_) (by have := hl; omega)
  obtain ⟨b12, o13, hA14, hb15, hc16⟩ := Rd.elByte rd6 hx11
  refine Fq (.pointer (some ⟨b12, o13 + at_, none⟩)) (r_idx1 (n := n) (c := c) (k := at_) rfl ek hA14 kk kk (by have := hl; omega)) ?_
  refine Fl (.int .u8 x10) (sgS hc16 (by simp)) ?_
  have hx9 := hz _ (List.mem_of_getElem? hx11)
  refine Fq (.int .i64 x10) (r_conv (k := .u8) (k' := .i64) (n := x10) (m := x10) rfl ek kk kk (wrap_i64 (by omega) (by omega))) ?_
  refine Fa (.int .i64 x10) ?_
  refine F.es ?_
  have hB := SG.blk s9 hB (Option.some_ne_none _)
  have c17 := (SG.fr (B := B) c5 s9 (fun kq e => by cases e))
  refine h3 _ _ ?_
  refine wk fun K5 h5 => ?_
  refine W.region_plain (row := (some B)) [(0, false), (1, false), (2, false), (3, true), (4, false), (5, false), (6, false), (7, true)] kk ?_
  have s19 := SG.self w7 (some B)
  refine Fv (.pointer (some ⟨B, 0, none⟩)) ?_
  refine Fq (.pointer (some ⟨B, 0, none⟩)) (r_nilCheck rfl ek) ?_
  refine Fq (.pointer (some ⟨B, 1, none⟩)) (r_field (k := 1) rfl ek kk) ?_
  refine W.slq (v := .int .i64 (at_ : Int)) s19 rfl (r_load rfl kk kk (eqS (blk_cell (j := 1) hB kk))) kk rfl ?_
  refine F.nx ?_
  refine Fq (.int .i64 ((at_ + 1 : Nat) : Int)) (r_add (m := (at_ : Int)) (n := 1) (z := ((at_ + 1 : Nat) : Int)) rfl ek ek (by omega) (by omega)) ?_
  refine Fq (.pointer (some ⟨B, 0, none⟩)) (r_nilCheck rfl ek) ?_
  refine Fq (.pointer (some ⟨B, 1, none⟩)) (r_field (k := 1) rfl ek kk) ?_
  refine W.ss (v := .int .i64 ((at_ + 1 : Nat) : Int)) (j := 1) (news := [.int .i64 ((at_ + 1 : Nat) : Int)]) (cs' := #[.slice A n c, .int .i64 ((at_ + 1 : Nat) : Int), .int .u64 sd]) s19 rfl kk rfl rfl kk kk hB kk kk (by simp) kk kk (.inl rfl) (fun w20 g21 x22 s23 => ?_)
  refine F.es ?_
  have c24 := (SG.fr (B := B) c17 s23 (fun kq e => .inl (by cases e; rfl)))
  refine h5 _ _ ?_
  refine wk fun K6 h6 => ?_
  refine W.region_plain (row := (some B)) [(0, false), (1, false), (2, false), (3, false), (4, true), (5, false), (6, false), (7, false), (8, false), (9, false), (10, false), (11, false), (12, true)] kk ?_
  have s26 := SG.self w20 (some B)
  refine Fv (.pointer (some ⟨B, 0, none⟩)) ?_
  refine Fv (.pointer (some ⟨B, 0, none⟩)) ?_
  refine Fq (.pointer (some ⟨B, 0, none⟩)) (r_nilCheck rfl ek) ?_
  refine Fq (.pointer (some ⟨B, 2, none⟩)) (r_field (k := 2) rfl ek kk) ?_
  refine W.slq (v := .int .u64 sd) s26 rfl (r_load rfl kk kk (eqS (blk_cell (j := 2) x22 kk))) kk rfl ?_
  refine F.nx ?_
  refine Fq (.int .u64 (IntKind.u64.wrap (sd * 6364136223846793005))) (r_mulK (k := .u64) (m := sd) (n := 6364136223846793005) (z := (IntKind.u64.wrap (sd * 6364136223846793005))) rfl ek ek (rfl)) ?_
  refine Fv (.int .i64 x10) ?_
  refine Fq (.int .u64 (IntKind.u64.wrap x10)) (r_conv (k := .i64) (k' := .u64) (n := x10) (m := (IntKind.u64.wrap x10)) rfl ek kk kk (rfl)) ?_
  refine Fq (.int .u64 (IntKind.u64.wrap ((IntKind.u64.wrap (sd * 6364136223846793005)) + (IntKind.u64.wrap x10)))) (r_addK (k := .u64) (m := (IntKind.u64.wrap (sd * 6364136223846793005))) (n := (IntKind.u64.wrap x10)) (z := (IntKind.u64.wrap ((IntKind.u64.wrap (sd * 6364136223846793005)) + (IntKind.u64.wrap x10)))) rfl ek ek (rfl)) ?_
  refine Fq (.int .u64 (IntKind.u64.wrap ((IntKind.u64.wrap ((IntKind.u64.wrap (sd * 6364136223846793005)) + (IntKind.u64.wrap x10))) + 853853))) (r_addK (k := .u64) (m := (IntKind.u64.wrap ((IntKind.u64.wrap (sd * 6364136223846793005)) + (IntKind.u64.wrap x10)))) (n := 853853) (z := (IntKind.u64.wrap ((IntKind.u64.wrap ((IntKind.u64.wrap (sd * 6364136223846793005)) + (IntKind.u64.wrap x10))) + 853853))) rfl ek ek (rfl)) ?_
  refine Fq (.pointer (some ⟨B, 0, none⟩)) (r_nilCheck rfl ek) ?_
  refine Fq (.pointer (some ⟨B, 2, none⟩)) (r_field (k := 2) rfl ek kk) ?_
  refine W.ss (v := .int .u64 (IntKind.u64.wrap ((IntKind.u64.wrap ((IntKind.u64.wrap (sd * 6364136223846793005)) + (IntKind.u64.wrap x10))) + 853853))) (j := 2) (news := [.int .u64 (IntKind.u64.wrap ((IntKind.u64.wrap ((IntKind.u64.wrap (sd * 6364136223846793005)) + (IntKind.u64.wrap x10))) + 853853))]) (cs' := #[.slice A n c, .int .i64 ((at_ + 1 : Nat) : Int), .int .u64 (IntKind.u64.wrap ((IntKind.u64.wrap ((IntKind.u64.wrap (sd * 6364136223846793005)) + (IntKind.u64.wrap x10))) + 853853))]) s26 rfl kk rfl rfl kk kk x22 kk kk (by simp) kk kk (.inl rfl) (fun w27 g28 x29 s30 => ?_)
  refine F.es ?_
  have c31 := (SG.fr (B := B) c24 s30 (fun kq e => .inl (by cases e; rfl)))
  refine h6 _ _ ?_
  refine wk fun K7 h7 => ?_
  refine wk fun K8 h8 => ?_
  refine W.region_sch (row := none) (Sch.of [(0, false), (1, false), (2, false), (3, false), (4, false), (5, false), (6, false), (7, false), (8, false), (9, false)]) kk kk (fun _ d _ _ _ h => by cases d <;> exact h) kk (fun w33 e34 s35 => ?_)
  refine Fv (.pointer (some ⟨B, 0, none⟩)) ?_
  refine Fq (.pointer (some ⟨B, 0, none⟩)) (r_nilCheck rfl ek) ?_
  refine Fq (.pointer (some ⟨B, 1, none⟩)) (r_field (k := 1) rfl ek kk) ?_
  refine Fl (.int .i64 ((at_ + 1 : Nat) : Int)) (sgS (blk_cell (j := 1) x29 kk) (Option.some_ne_none _)) ?_
  refine Fv (.pointer (some ⟨B, 0, none⟩)) ?_
  refine Fq (.pointer (some ⟨B, 0, none⟩)) (r_nilCheck rfl ek) ?_
  refine Fq (.pointer (some ⟨B, 0, none⟩)) (r_field0 rfl ek kk) ?_
  refine Fl (.slice A n c) (sgS (blk_cell (j := 0) x29 kk) (Option.some_ne_none _)) ?_
  refine Fq (.int .i64 (n : Int)) (r_len (A := A) (n := n) (c := c) rfl ek kk) ?_
  by_cases q36 : (((at_ + 1 : Nat) : Int) : Int) ≤ ((n : Int) : Int)
  ·refine Fq (.bool true) (r_leq (m := ((at_ + 1 : Nat) : Int)) (n := (n : Int)) rfl ek ek (decide_eq_true q36)) ?_
   refine F.es ?_
   have x29 := SG.blk s35 x29 (Option.some_ne_none _)
   have c37 := (SG.fr (B := B) c31 s35 (fun kq e => by cases e))
   refine h8 _ _ ?_
   refine wp_cond_true ek ?_
   refine wk fun K9 h9 => ?_
   refine W.region_quiet [(0, false), (1, false)] kk ?_
   refine Fv (.int .i64 x10) ?_
   refine Fa (.int .i64 x10) ?_
   refine F.es ?_
   refine h9 _ _ ?_
   refine wp_ret ?_
   try simp only [Exit.then]
   refine ret1 (v := .int .i64 x10) rfl kk ?_
   exact ⟨_, _, rfl, ⟨by omega, by omega⟩, x29, c37⟩
  refine Fq (.bool false) (r_leq (m := ((at_ + 1 : Nat) : Int)) (n := (n : Int)) rfl ek ek (decide_eq_false q36)) ?_
  refine F.es ?_
  have x29 := SG.blk s35 x29 (Option.some_ne_none _)
  have c39 := (SG.fr (B := B) c31 s35 (fun kq e => by cases e))
  refine h8 _ _ ?_
  refine wp_cond_false ek ?_
  refine wp_skip ?_
  refine h7 _ _ ?_
  refine wk fun K10 h10 => ?_
  refine W.region_quiet [(0, false), (1, false), (2, false), (3, false), (4, false), (5, false), (6, false), (7, false)] kk ?_
  refine Fv (.pointer (some ⟨B, 0, none⟩)) ?_
  refine Fq (.pointer (some ⟨B, 0, none⟩)) (r_nilCheck rfl ek) ?_
  refine Fq (.pointer (some ⟨B, 2, none⟩)) (r_field (k := 2) rfl ek kk) ?_
  refine Fl (.int .u64 (IntKind.u64.wrap ((IntKind.u64.wrap ((IntKind.u64.wrap (sd * 6364136223846793005)) + (IntKind.u64.wrap x10))) + 853853))) (eqS (blk_cell (j := 2) x29 kk)) ?_
  refine Fq (.int .u64 ((IntKind.u64.wrap ((IntKind.u64.wrap ((IntKind.u64.wrap (sd * 6364136223846793005)) + (IntKind.u64.wrap x10))) + 853853)) / 2 ^ 40)) (r_shrZ (z := (IntKind.u64.wrap ((IntKind.u64.wrap ((IntKind.u64.wrap (sd * 6364136223846793005)) + (IntKind.u64.wrap x10))) + 853853))) (k := 40) (yk := .u64) rfl ek kk (by omega)) ?_
  refine Fq (.int .u64 ((and255 ((IntKind.u64.wrap ((IntKind.u64.wrap ((IntKind.u64.wrap (sd * 6364136223846793005)) + (IntKind.u64.wrap x10))) + 853853)) / 2 ^ 40) : Nat) : Int)) (r_and255 (z := ((IntKind.u64.wrap ((IntKind.u64.wrap ((IntKind.u64.wrap (sd * 6364136223846793005)) + (IntKind.u64.wrap x10))) + 853853)) / 2 ^ 40)) rfl ek kk) ?_
  have hx9 := and255_lt ((IntKind.u64.wrap ((IntKind.u64.wrap ((IntKind.u64.wrap (sd * 6364136223846793005)) + (IntKind.u64.wrap x10))) + 853853)) / 2 ^ 40)
  refine Fq (.int .i64 ((and255 ((IntKind.u64.wrap ((IntKind.u64.wrap ((IntKind.u64.wrap (sd * 6364136223846793005)) + (IntKind.u64.wrap x10))) + 853853)) / 2 ^ 40) : Nat) : Int)) (r_conv (k := .u64) (k' := .i64) (n := ((and255 ((IntKind.u64.wrap ((IntKind.u64.wrap ((IntKind.u64.wrap (sd * 6364136223846793005)) + (IntKind.u64.wrap x10))) + 853853)) / 2 ^ 40) : Nat) : Int)) (m := ((and255 ((IntKind.u64.wrap ((IntKind.u64.wrap ((IntKind.u64.wrap (sd * 6364136223846793005)) + (IntKind.u64.wrap x10))) + 853853)) / 2 ^ 40) : Nat) : Int)) rfl ek kk kk (wrap_i64 (by omega) (by omega))) ?_
  refine Fa (.int .i64 ((and255 ((IntKind.u64.wrap ((IntKind.u64.wrap ((IntKind.u64.wrap (sd * 6364136223846793005)) + (IntKind.u64.wrap x10))) + 853853)) / 2 ^ 40) : Nat) : Int)) ?_
  refine F.es ?_
  refine h10 _ _ ?_
  refine wp_ret ?_
  try simp only [Exit.then]
  refine ret1 (v := .int .i64 ((and255 ((IntKind.u64.wrap ((IntKind.u64.wrap ((IntKind.u64.wrap (sd * 6364136223846793005)) + (IntKind.u64.wrap x10))) + 853853)) / 2 ^ 40) : Nat) : Int)) rfl kk ?_
  exact ⟨_, _, rfl, ⟨by omega, by omega⟩, x29, c39⟩
 refine Fq (.bool false) (r_lss (m := (at_ : Int)) (n := (n : Int)) rfl ek ek (decide_eq_false q4)) ?_
 refine F.es ?_
 have hB := SG.blk s3 hB (Option.some_ne_none _)
 have c41 := (SG.fr (B := B) (World.grownBy.refl _ _) s3 (fun kq e => by cases e))
 refine h4 _ _ ?_
 refine wp_cond_false ek ?_
 refine wp_skip ?_
 refine h3 _ _ ?_
 refine wk fun K11 h11 => ?_
 refine W.region_plain (row := (some B)) [(0, false), (1, false), (2, false), (3, true), (4, false), (5, false), (6, false), (7, true)] kk ?_
 have s43 := SG.self w1 (some B)
 refine Fv (.pointer (some ⟨B, 0, none⟩)) ?_
 refine Fq (.pointer (some ⟨B, 0, none⟩)) (r_nilCheck rfl ek) ?_
 refine Fq (.pointer (some ⟨B, 1, none⟩)) (r_field (k := 1) rfl ek kk) ?_
 refine W.slq (v := .int .i64 (at_ : Int)) s43 rfl (r_load rfl kk kk (eqS (blk_cell (j := 1) hB kk))) kk rfl ?_
 refine F.nx ?_
 refine Fq (.int .i64 ((at_ + 1 : Nat) : Int)) (r_add (m := (at_ : Int)) (n := 1) (z := ((at_ + 1 : Nat) : Int)) rfl ek ek (by omega) (by omega)) ?_
 refine Fq (.pointer (some ⟨B, 0, none⟩)) (r_nilCheck rfl ek) ?_
 refine Fq (.pointer (some ⟨B, 1, none⟩)) (r_field (k := 1) rfl ek kk) ?_
 refine W.ss (v := .int .i64 ((at_ + 1 : Nat) : Int)) (j := 1) (news := [.int .i64 ((at_ + 1 : Nat) : Int)]) (cs' := #[.slice A n c, .int .i64 ((at_ + 1 : Nat) : Int), .int .u64 sd]) s43 rfl kk rfl rfl kk kk hB kk kk (by simp) kk kk (.inl rfl) (fun w44 g45 x46 s47 => ?_)
 refine F.es ?_
 have c48 := (SG.fr (B := B) c41 s47 (fun kq e => .inl (by cases e; rfl)))
 refine h11 _ _ ?_
 refine wk fun K12 h12 => ?_
 refine W.region_plain (row := (some B)) [(0, false), (1, false), (2, false), (3, false), (4, true), (5, false), (6, false), (7, false), (8, false), (9, false), (10, false), (11, false), (12, true)] kk ?_
 have s50 := SG.self w44 (some B)
 refine Fv (.pointer (some ⟨B, 0, none⟩)) ?_
 refine Fv (.pointer (some ⟨B, 0, none⟩)) ?_
 refine Fq (.pointer (some ⟨B, 0, none⟩)) (r_nilCheck rfl ek) ?_
 refine Fq (.pointer (some ⟨B, 2, none⟩)) (r_field (k := 2) rfl ek kk) ?_
 refine W.slq (v := .int .u64 sd) s50 rfl (r_load rfl kk kk (eqS (blk_cell (j := 2) x46 kk))) kk rfl ?_
 refine F.nx ?_
 refine Fq (.int .u64 (IntKind.u64.wrap (sd * 6364136223846793005))) (r_mulK (k := .u64) (m := sd) (n := 6364136223846793005) (z := (IntKind.u64.wrap (sd * 6364136223846793005))) rfl ek ek (rfl)) ?_
 refine Fv (.int .i64 0) ?_
 refine Fq (.int .u64 (IntKind.u64.wrap 0)) (r_conv (k := .i64) (k' := .u64) (n := 0) (m := (IntKind.u64.wrap 0)) rfl ek kk kk (rfl)) ?_
 refine Fq (.int .u64 (IntKind.u64.wrap ((IntKind.u64.wrap (sd * 6364136223846793005)) + (IntKind.u64.wrap 0)))) (r_addK (k := .u64) (m := (IntKind.u64.wrap (sd * 6364136223846793005))) (n := (IntKind.u64.wrap 0)) (z := (IntKind.u64.wrap ((IntKind.u64.wrap (sd * 6364136223846793005)) + (IntKind.u64.wrap 0)))) rfl ek ek (rfl)) ?_
 refine Fq (.int .u64 (IntKind.u64.wrap ((IntKind.u64.wrap ((IntKind.u64.wrap (sd * 6364136223846793005)) + (IntKind.u64.wrap 0))) + 853853))) (r_addK (k := .u64) (m := (IntKind.u64.wrap ((IntKind.u64.wrap (sd * 6364136223846793005)) + (IntKind.u64.wrap 0)))) (n := 853853) (z := (IntKind.u64.wrap ((IntKind.u64.wrap ((IntKind.u64.wrap (sd * 6364136223846793005)) + (IntKind.u64.wrap 0))) + 853853))) rfl ek ek (rfl)) ?_
 refine Fq (.pointer (some ⟨B, 0, none⟩)) (r_nilCheck rfl ek) ?_
 refine Fq (.pointer (some ⟨B, 2, none⟩)) (r_field (k := 2) rfl ek kk) ?_
 refine W.ss (v := .int .u64 (IntKind.u64.wrap ((IntKind.u64.wrap ((IntKind.u64.wrap (sd * 6364136223846793005)) + (IntKind.u64.wrap 0))) + 853853))) (j := 2) (news := [.int .u64 (IntKind.u64.wrap ((IntKind.u64.wrap ((IntKind.u64.wrap (sd * 6364136223846793005)) + (IntKind.u64.wrap 0))) + 853853))]) (cs' := #[.slice A n c, .int .i64 ((at_ + 1 : Nat) : Int), .int .u64 (IntKind.u64.wrap ((IntKind.u64.wrap ((IntKind.u64.wrap (sd * 6364136223846793005)) + (IntKind.u64.wrap 0))) + 853853))]) s50 rfl kk rfl rfl kk kk x46 kk kk (by simp) kk kk (.inl rfl) (fun w51 g52 x53 s54 => ?_)
 refine F.es ?_
 have c55 := (SG.fr (B := B) c48 s54 (fun kq e => .inl (by cases e; rfl)))
 refine h12 _ _ ?_
 refine wk fun K13 h13 => ?_
 refine wk fun K14 h14 => ?_
 refine W.region_sch (row := none) (Sch.of [(0, false), (1, false), (2, false), (3, false), (4, false), (5, false), (6, false), (7, false), (8, false), (9, false)]) kk kk (fun _ d _ _ _ h => by cases d <;> exact h) kk (fun w57 e58 s59 => ?_)
 refine Fv (.pointer (some ⟨B, 0, none⟩)) ?_
 refine Fq (.pointer (some ⟨B, 0, none⟩)) (r_nilCheck rfl ek) ?_
 refine Fq (.pointer (some ⟨B, 1, none⟩)) (r_field (k := 1) rfl ek kk) ?_
 refine Fl (.int .i64 ((at_ + 1 : Nat) : Int)) (sgS (blk_cell (j := 1) x53 kk) (Option.some_ne_none _)) ?_
 refine Fv (.pointer (some ⟨B, 0, none⟩)) ?_
 refine Fq (.pointer (some ⟨B, 0, none⟩)) (r_nilCheck rfl ek) ?_
 refine Fq (.pointer (some ⟨B, 0, none⟩)) (r_field0 rfl ek kk) ?_
 refine Fl (.slice A n c) (sgS (blk_cell (j := 0) x53 kk) (Option.some_ne_none _)) ?_
 refine Fq (.int .i64 (n : Int)) (r_len (A := A) (n := n) (c := c) rfl ek kk) ?_
 by_cases q60 : (((at_ + 1 : Nat) : Int) : Int) ≤ ((n : Int) : Int)
 ·refine Fq (.bool true) (r_leq (m := ((at_ + 1 : Nat) : Int)) (n := (n : Int)) rfl ek ek (decide_eq_true q60)) ?_
  refine F.es ?_
  have x53 := SG.blk s59 x53 (Option.some_ne_none _)
  have c61 := (SG.fr (B := B) c55 s59 (fun kq e => by cases e))
  refine h14 _ _ ?_
  refine wp_cond_true ek ?_
  refine wk fun K15 h15 => ?_
  refine W.region_quiet [(0, false), (1, false)] kk ?_
  refine Fv (.int .i64 0) ?_
  refine Fa (.int .i64 0) ?_
  refine F.es ?_
  refine h15 _ _ ?_
  refine wp_ret ?_
  try simp only [Exit.then]
  refine ret1 (v := .int .i64 0) rfl kk ?_
  exact ⟨_, _, rfl, ⟨by omega, by omega⟩, x53, c61⟩
 refine Fq (.bool false) (r_leq (m := ((at_ + 1 : Nat) : Int)) (n := (n : Int)) rfl ek ek (decide_eq_false q60)) ?_
 refine F.es ?_
 have x53 := SG.blk s59 x53 (Option.some_ne_none _)
 have c63 := (SG.fr (B := B) c55 s59 (fun kq e => by cases e))
 refine h14 _ _ ?_
 refine wp_cond_false ek ?_
 refine wp_skip ?_
 refine h13 _ _ ?_
 refine wk fun K16 h16 => ?_
 refine W.region_quiet [(0, false), (1, false), (2, false), (3, false), (4, false), (5, false), (6, false), (7, false)] kk ?_
 refine Fv (.pointer (some ⟨B, 0, none⟩)) ?_
 refine Fq (.pointer (some ⟨B, 0, none⟩)) (r_nilCheck rfl ek) ?_
 refine Fq (.pointer (some ⟨B, 2, none⟩)) (r_field (k := 2) rfl ek kk) ?_
 refine Fl (.int .u64 (IntKind.u64.wrap ((IntKind.u64.wrap ((IntKind.u64.wrap (sd * 6364136223846793005)) + (IntKind.u64.wrap 0))) + 853853))) (eqS (blk_cell (j := 2) x53 kk)) ?_
 refine Fq (.int .u64 ((IntKind.u64.wrap ((IntKind.u64.wrap ((IntKind.u64.wrap (sd * 6364136223846793005)) + (IntKind.u64.wrap 0))) + 853853)) / 2 ^ 40)) (r_shrZ (z := (IntKind.u64.wrap ((IntKind.u64.wrap ((IntKind.u64.wrap (sd * 6364136223846793005)) + (IntKind.u64.wrap 0))) + 853853))) (k := 40) (yk := .u64) rfl ek kk (by omega)) ?_
 refine Fq (.int .u64 ((and255 ((IntKind.u64.wrap ((IntKind.u64.wrap ((IntKind.u64.wrap (sd * 6364136223846793005)) + (IntKind.u64.wrap 0))) + 853853)) / 2 ^ 40) : Nat) : Int)) (r_and255 (z := ((IntKind.u64.wrap ((IntKind.u64.wrap ((IntKind.u64.wrap (sd * 6364136223846793005)) + (IntKind.u64.wrap 0))) + 853853)) / 2 ^ 40)) rfl ek kk) ?_
 have hx9 := and255_lt ((IntKind.u64.wrap ((IntKind.u64.wrap ((IntKind.u64.wrap (sd * 6364136223846793005)) + (IntKind.u64.wrap 0))) + 853853)) / 2 ^ 40)
 refine Fq (.int .i64 ((and255 ((IntKind.u64.wrap ((IntKind.u64.wrap ((IntKind.u64.wrap (sd * 6364136223846793005)) + (IntKind.u64.wrap 0))) + 853853)) / 2 ^ 40) : Nat) : Int)) (r_conv (k := .u64) (k' := .i64) (n := ((and255 ((IntKind.u64.wrap ((IntKind.u64.wrap ((IntKind.u64.wrap (sd * 6364136223846793005)) + (IntKind.u64.wrap 0))) + 853853)) / 2 ^ 40) : Nat) : Int)) (m := ((and255 ((IntKind.u64.wrap ((IntKind.u64.wrap ((IntKind.u64.wrap (sd * 6364136223846793005)) + (IntKind.u64.wrap 0))) + 853853)) / 2 ^ 40) : Nat) : Int)) rfl ek kk kk (wrap_i64 (by omega) (by omega))) ?_
 refine Fa (.int .i64 ((and255 ((IntKind.u64.wrap ((IntKind.u64.wrap ((IntKind.u64.wrap (sd * 6364136223846793005)) + (IntKind.u64.wrap 0))) + 853853)) / 2 ^ 40) : Nat) : Int)) ?_
 refine F.es ?_
 refine h16 _ _ ?_
 refine wp_ret ?_
 try simp only [Exit.then]
 refine ret1 (v := .int .i64 ((and255 ((IntKind.u64.wrap ((IntKind.u64.wrap ((IntKind.u64.wrap (sd * 6364136223846793005)) + (IntKind.u64.wrap 0))) + 853853)) / 2 ^ 40) : Nat) : Int)) rfl kk ?_
 exact ⟨_, _, rfl, ⟨by omega, by omega⟩, x53, c63⟩

theorem next_any (B N k : Nat) (w : World) (h : Cur w B N k) (hk : k ≤ 4000000000000000000) : Calls Tryd.prog 84 #[.pointer (some ⟨B, 0, none⟩)] w fun e w' => ∃ x, e = .returned (.int .i64 x) ∧ (0 ≤ x ∧ x < 256) ∧ Cur w' B N (k + 1) ∧ w.grownBy w' (some B) := by
  obtain ⟨A, n, c, zs, at_, sd, h1, h2, h3, h4, h5, h6, h7⟩ := h
  have hsp : Sp A n (some B) := fun hp b off e e2 => by
    have := h7 b off hp e
    cases e2; omega
  exact (next_raw B A n c zs at_ sd w h1 h2 hsp h3 h4 (by omega)).mono fun e w' ⟨x, sd', he, hx, hb, hg⟩ => ⟨x, he, hx, ⟨A, n, c, zs, at_ + 1, sd', hb, rd_sepG h2 hg hsp, h3, h4, by omega, h6, h7⟩, hg⟩

set_option maxRecDepth 100000 in
set_option maxHeartbeats 8000000 in
theorem pick_any (B N k : Nat) (n : Int) (w : World) (hc : Cur w B N k) (hk : k ≤ 1000000000000) (hn : n ≤ 9223372036854775807) :
    Calls Tryd.prog 54 #[.pointer (some ⟨B, 0, none⟩), .int .i64 n] w fun e w' => ∃ x, e = .returned (.int .i64 x) ∧ (0 ≤ x ∧ (n ≤ 1 → x = 0) ∧ (1 < n → x < n)) ∧ Cur w' B N (k + 2) ∧ w.grownBy w' (some B) := by
 have hN := Cur.hN hc
 go_enter Tryd.func54, Tryd.ntmps54
 refine F.begin 20 [(0, .pointer (some ⟨B, 0, none⟩)), (1, .int .i64 n)] (fun U0 => ?_)
 refine wk fun K1 h1 => ?_
 refine W.region_quiet [(0, false)] kk ?_
 refine Fa (.int .i64 0) ?_
 refine F.es ?_
 refine h1 _ _ ?_
 refine wk fun K2 h2 => ?_
 refine wk fun K3 h3 => ?_
 refine W.region_quiet [(0, false), (1, false)] kk ?_
 refine Fv (.int .i64 n) ?_
 by_cases q1 : (n : Int) ≤ (1 : Int)
 ·refine Fq (.bool true) (r_leq (m := n) (n := 1) rfl ek ek (decide_eq_true q1)) ?_
  refine F.es ?_
  refine h3 _ _ ?_
  refine wp_cond_true ek ?_
  refine wk fun K4 h4 => ?_
  refine W.region_quiet [(0, false)] kk ?_
  refine Fa (.int .i64 0) ?_
  refine F.es ?_
  refine h4 _ _ ?_
  refine wp_ret ?_
  try simp only [Exit.then]
  refine ret1 (v := .int .i64 0) rfl kk ?_
  exact ⟨_, rfl, ⟨by omega, fun _ => by omega, fun _ => by omega⟩, Cur.mono hc (by omega), (World.grownBy.refl _ _)⟩
 refine Fq (.bool false) (r_leq (m := n) (n := 1) rfl ek ek (decide_eq_false q1)) ?_
 refine F.es ?_
 refine h3 _ _ ?_
 refine wp_cond_false ek ?_
 refine wp_skip ?_
 refine h2 _ _ ?_
 refine wk fun K5 h5 => ?_
 refine W.region_plain (row := (some B)) [(0, false), (1, true), (2, false)] kk ?_
 have s2 := SG.self w (some B)
 refine Fv (.pointer (some ⟨B, 0, none⟩)) ?_
 refine Fc [.pointer (some ⟨B, 0, none⟩)] (next_any B N k  _ hc (by omega) ) ?_
 rintro e w6 ⟨x3, rfl, hx4, x8, g7⟩
 have s9 := SG.of_grown s2 g7 (.inl rfl)
 refine ⟨_, rfl, s9, ?_⟩
 refine F.nx ?_
 refine Fa (.int .i64 x3) ?_
 refine F.es ?_
 have c10 := (SG.fr (B := B) (World.grownBy.refl _ _) s9 (fun kq e => .inl (by cases e; rfl)))
 refine h5 _ _ ?_
 refine wk fun K6 h6 => ?_
 refine wk fun K7 h7 => ?_
 refine W.region_quiet [(0, false), (1, false)] kk ?_
 refine Fv (.int .i64 n) ?_
 by_cases q11 : (n : Int) > (200 : Int)
 ·refine Fq (.bool true) (r_gtr (m := n) (n := 200) rfl ek ek (decide_eq_true q11)) ?_
  refine F.es ?_
  refine h7 _ _ ?_
  refine wp_cond_true ek ?_
  refine W.region_plain (row := (some B)) [(0, false), (1, false), (2, false), (3, true), (4, false), (5, false)] kk ?_
  have s12 := SG.self w6 (some B)
  refine Fv (.int .i64 x3) ?_
  refine Fq (.int .i64 (x3 * 256)) (r_mulK (k := .i64) (m := x3) (n := 256) (z := (x3 * 256)) rfl ek ek (wrap_i64 (by omega) (by omega))) ?_
  refine Fv (.pointer (some ⟨B, 0, none⟩)) ?_
  refine Fc [.pointer (some ⟨B, 0, none⟩)] (next_any B N (k + 1)  _ x8 (by omega) ) ?_
  rintro e w16 ⟨x13, rfl, hx14, x18, g17⟩
  have s19 := SG.of_grown s12 g17 (.inl rfl)
  refine ⟨_, rfl, s19, ?_⟩
  refine F.nx ?_
  refine Fq (.int .i64 ((x3 * 256) + x13)) (r_add (m := (x3 * 256)) (n := x13) (z := (x3 * 256) + x13) rfl ek ek (rfl) (by omega)) ?_
  refine Fa (.int .i64 ((x3 * 256) + x13)) ?_
  refine F.es ?_
  have c20 := (SG.fr (B := B) c10 s19 (fun kq e => .inl (by cases e; rfl)))
  refine h6 _ _ ?_
  refine wk fun K8 h8 => ?_
  refine W.region_quiet [(0, false), (1, false), (2, false), (3, false)] kk ?_
  refine Fv (.int .i64 ((x3 * 256) + x13)) ?_
  refine Fv (.int .i64 n) ?_
  have hr1 := Int.emod_nonneg ((x3 * 256) + x13) (show n ≠ 0 by omega)
  have hr2 := Int.emod_lt_of_pos ((x3 * 256) + x13) (show 0 < n by omega)
  refine Fq (.int .i64 (((x3 * 256) + x13) % n)) (r_remK (k := .i64) (m := (x3 * 256) + x13) (n := n) (z := (((x3 * 256) + x13) % n)) rfl ek ek (by omega) (Int.tmod_eq_emod_of_nonneg (by omega))) ?_
  refine Fa (.int .i64 (((x3 * 256) + x13) % n)) ?_
  refine F.es ?_
  refine h8 _ _ ?_
  refine wp_ret ?_
  try simp only [Exit.then]
  refine ret1 (v := .int .i64 (((x3 * 256) + x13) % n)) rfl kk ?_
  exact ⟨_, rfl, ⟨by omega, fun _ => by omega, fun _ => by omega⟩, Cur.mono x18 (by omega), c20⟩
 refine Fq (.bool false) (r_gtr (m := n) (n := 200) rfl ek ek (decide_eq_false q11)) ?_
 refine F.es ?_
 refine h7 _ _ ?_
 refine wp_cond_false ek ?_
 refine wp_skip ?_
 refine h6 _ _ ?_
 refine wk fun K9 h9 => ?_
 refine W.region_quiet [(0, false), (1, false), (2, false), (3, false)] kk ?_
 refine Fv (.int .i64 x3) ?_
 refine Fv (.int .i64 n) ?_
 have hr1 := Int.emod_nonneg x3 (show n ≠ 0 by omega)
 have hr2 := Int.emod_lt_of_pos x3 (show 0 < n by omega)
 refine Fq (.int .i64 (x3 % n)) (r_remK (k := .i64) (m := x3) (n := n) (z := (x3 % n)) rfl ek ek (by omega) (Int.tmod_eq_emod_of_nonneg (by omega))) ?_
 refine Fa (.int .i64 (x3 % n)) ?_
 refine F.es ?_
 refine h9 _ _ ?_
 refine wp_ret ?_
 try simp only [Exit.then]
 refine ret1 (v := .int .i64 (x3 % n)) rfl kk ?_
 exact ⟨_, rfl, ⟨by omega, fun _ => by omega, fun _ => by omega⟩, Cur.mono x8 (by omega), c10⟩

set_option maxRecDepth 100000 in
set_option maxHeartbeats 8000000 in
theorem one_any (B N k : Nat) (n : Int) (w : World) (hc : Cur w B N k) (hk : k ≤ 1000000000000) (hn : n ≤ 9223372036854775807) :
    Calls Tryd.prog 51 #[.pointer (some ⟨B, 0, none⟩), .int .i64 n] w fun e w' => ∃ b, e = .returned (.bool b) ∧ (True) ∧ Cur w' B N (k + 2) ∧ w.grownBy w' (some B) := by
 have hN := Cur.hN hc
 go_enter Tryd.func51, Tryd.ntmps51
 refine F.begin 9 [(0, .pointer (some ⟨B, 0, none⟩)), (1, .int .i64 n)] (fun U0 => ?_)
 refine wk fun K1 h1 => ?_
 refine W.region_quiet [(0, false)] kk ?_
 refine Fa (.bool false) ?_
 refine F.es ?_
 refine h1 _ _ ?_
 refine wk fun K2 h2 => ?_
 refine W.region_plain (row := (some B)) [(0, false), (1, false), (2, true), (3, false), (4, false)] kk ?_
 have s1 := SG.self w (some B)
 refine Fv (.pointer (some ⟨B, 0, none⟩)) ?_
 refine Fv (.int .i64 n) ?_
 refine Fc [.pointer (some ⟨B, 0, none⟩), .int .i64 n] (pick_any B N k n _ hc (by omega) (by omega)) ?_
 rintro e w5 ⟨x2, rfl, hx3, x7, g6⟩
 have s8 := SG.of_grown s1 g6 (.inl rfl)
 refine ⟨_, rfl, s8, ?_⟩
 refine F.nx ?_
 by_cases q9 : (x2 : Int) = (0 : Int)
 ·refine Fq (.bool true) (r_eql (m := x2) (n := 0) rfl ek ek (decide_eq_true q9)) ?_
  refine Fa (.bool true) ?_
  refine F.es ?_
  have c10 := (SG.fr (B := B) (World.grownBy.refl _ _) s8 (fun kq e => .inl (by cases e; rfl)))
  refine h2 _ _ ?_
  refine wp_ret ?_
  try simp only [Exit.then]
  refine ret1 (v := .bool true) rfl kk ?_
  exact ⟨_, rfl, trivial, Cur.mono x7 (by omega), c10⟩
 refine Fq (.bool false) (r_eql (m := x2) (n := 0) rfl ek ek (decide_eq_false q9)) ?_
 refine Fa (.bool false) ?_
 refine F.es ?_
 have c11 := (SG.fr (B := B) (World.grownBy.refl _ _) s8 (fun kq e => .inl (by cases e; rfl)))
 refine h2 _ _ ?_
 refine wp_ret ?_
 try simp only [Exit.then]
 refine ret1 (v := .bool false) rfl kk ?_
 exact ⟨_, rfl, trivial, Cur.mono x7 (by omega), c11⟩

set_option maxRecDepth 100000 in
set_option maxHeartbeats 8000000 in
theorem of_any (B N k : Nat) (A : Option Addr) (n c : Nat) (zs : List ByteArray) (w : World) (hc : Cur w B N k) (hk : k ≤ 1000000000000) (hrd : Rd w 1 A n (strsV zs)) (hsp : Sp A n (some B)) (hn : 0 < n ∧ n ≤ 9223372036854775807) :
    Calls Tryd.prog 69 #[.pointer (some ⟨B, 0, none⟩), .slice A n c] w fun e w' => ∃ x, e = .returned (.string x) ∧ (x ∈ zs) ∧ Cur w' B N (k + 2) ∧ w.grownBy w' (some B) := by
 have hN := Cur.hN hc
 have hl := rd_strs_len hrd
 go_enter Tryd.func69, Tryd.ntmps69
 refine F.begin 12 [(0, .pointer (some ⟨B, 0, none⟩)), (1, .slice A n c)] (fun U0 => ?_)
 refine wk fun K1 h1 => ?_
 refine W.region_quiet [(0, false)] kk ?_
 refine Fa (.string (⟨#[]⟩ : ByteArray)) ?_
 refine F.es ?_
 refine h1 _ _ ?_
 refine wk fun K2 h2 => ?_
 refine W.region_plain (row := (some B)) [(0, false), (1, false), (2, false), (3, false), (4, true), (5, false), (6, false), (7, false)] kk ?_
 have s1 := SG.self w (some B)
 refine Fv (.slice A n c) ?_
 refine Fv (.pointer (some ⟨B, 0, none⟩)) ?_
 refine Fv (.slice A n c) ?_
 refine Fq (.int .i64 (n : Int)) (r_len (A := A) (n := n) (c := c) rfl ek kk) ?_
 refine Fc [.pointer (some ⟨B, 0, none⟩), .int .i64 (n : Int)] (pick_any B N k (n : Int) _ hc (by omega) (by omega)) ?_
 rintro e w5 ⟨x2, rfl, hx3, x7, g6⟩
 have s8 := SG.of_grown s1 g6 (.inl rfl)
 refine ⟨_, rfl, s8, ?_⟩
 refine F.nx ?_
 obtain ⟨x9, hx10⟩ := get_of (zs := zs) (k := x2.toNat) (by have := hl; omega)
 obtain ⟨b11, o12, hA13, hb14, hc15⟩ := Rd.elStr hrd hx10
 refine Fq (.pointer (some ⟨b11, o12 + x2.toNat, none⟩)) (r_idx1 (n := n) (c := c) (k := x2.toNat) rfl ek hA13 (evk (z := x2) kk (by omega)) kk (by have := hl; omega)) ?_
 refine Fl (.string x9) (sgS hc15 (hsp (by omega) _ _ hA13)) ?_
 refine Fa (.string x9) ?_
 refine F.es ?_
 have c16 := (SG.fr (B := B) (World.grownBy.refl _ _) s8 (fun kq e => .inl (by cases e; rfl)))
 refine h2 _ _ ?_
 refine wp_ret ?_
 try simp only [Exit.then]
 refine ret1 (v := .string x9) rfl kk ?_
 exact ⟨_, rfl, List.mem_of_getElem? hx10, Cur.mono x7 (by omega), c16⟩

set_option maxRecDepth 100000 in
set_option maxHeartbeats 8000000 in
theorem among_any (B N k : Nat) (A : Option Addr) (n c : Nat) (zs : List Int) (w : World) (hc : Cur w B N k) (hk : k ≤ 1000000000000) (hrd : Rd w 1 A n (intsV zs)) (hsp : Sp A n (some B)) (hn : 0 < n ∧ n ≤ 9223372036854775807) :
    Calls Tryd.prog 56 #[.pointer (some ⟨B, 0, none⟩), .slice A n c] w fun e w' => ∃ x, e = .returned (.int .i64 x) ∧ (x ∈ zs) ∧ Cur w' B N (k + 2) ∧ w.grownBy w' (some B) := by
 have hN := Cur.hN hc
 have hl := rd_ints_len hrd
 go_enter Tryd.func56, Tryd.ntmps56
 refine F.begin 12 [(0, .pointer (some ⟨B, 0, none⟩)), (1, .slice A n c)] (fun U0 => ?_)
 refine wk fun K1 h1 => ?_
 refine W.region_quiet [(0, false)] kk ?_
 refine Fa (.int .i64 0) ?_
 refine F.es ?_
 refine h1 _ _ ?_
 refine wk fun K2 h2 => ?_
 refine W.region_plain (row := (some B)) [(0, false), (1, false), (2, false), (3, false), (4, true), (5, false), (6, false), (7, false)] kk ?_
 have s1 := SG.self w (some B)
 refine Fv (.slice A n c) ?_
 refine Fv (.pointer (some ⟨B, 0, none⟩)) ?_
 refine Fv (.slice A n c) ?_
 refine Fq (.int .i64 (n : Int)) (r_len (A := A) (n := n) (c := c) rfl ek kk) ?_
 refine Fc [.pointer (some ⟨B, 0, none⟩), .int .i64 (n : Int)] (pick_any B N k (n : Int) _ hc (by omega) (by omega)) ?_
 rintro e w5 ⟨x2, rfl, hx3, x7, g6⟩
 have s8 := SG.of_grown s1 g6 (.inl rfl)
 refine ⟨_, rfl, s8, ?_⟩
 refine F.nx ?_
 obtain ⟨x9, hx10⟩ := get_of (zs := zs) (k := x2.toNat) (by have := hl; omega)
 obtain ⟨b11, o12, hA13, hb14, hc15⟩ := Rd.elInt hrd hx10
 refine Fq (.pointer (some ⟨b11, o12 + x2.toNat, none⟩)) (r_idx1 (n := n) (c := c) (k := x2.toNat) rfl ek hA13 (evk (z := x2) kk (by omega)) kk (by have := hl; omega)) ?_
 refine Fl (.int .i64 x9) (sgS hc15 (hsp (by omega) _ _ hA13)) ?_
 refine Fa (.int .i64 x9) ?_
 refine F.es ?_
 have c16 := (SG.fr (B := B) (World.grownBy.refl _ _) s8 (fun kq e => .inl (by cases e; rfl)))
 refine h2 _ _ ?_
 refine wp_ret ?_
 try simp only [Exit.then]
 refine ret1 (v := .int .i64 x9) rfl kk ?_
 exact ⟨_, rfl, List.mem_of_getElem? hx10, Cur.mono x7 (by omega), c16⟩

end Go.Proofs.YtdlcldaogcbnlaaDoor
