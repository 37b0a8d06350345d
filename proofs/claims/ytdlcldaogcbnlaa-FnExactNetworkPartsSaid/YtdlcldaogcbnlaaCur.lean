/- The cursor's functions: next, pick, one, of, among. -/
import Derived.Test.YtdlcldaogcbnlaaCurP
import Derived.Test.YtdlcldaogcbnlaaElI
namespace Go.Proofs.Ytdlcldaogcbnlaa
open Go.RowKit
set_option linter.unusedVariables false
set_option linter.unusedSimpArgs false

set_option maxRecDepth 100000 in
set_option maxHeartbeats 1000000 in
theorem next_raw (B : Nat) (A : Option Addr) (n c : Nat) (zs : List Int) (at_ : Nat) (sd : Int) (w : World) (hB : w.heap[B]? = some (.cells #[.slice A n c, .int .i64 ((at_ : Nat) : Int), .int .u64 sd] 68 (0, 0))) (hrd : Rd w 1 A n (bytesV zs)) (hsp : Sp A n (some B)) (hz : ∀ z ∈ zs, 0 ≤ z ∧ z < 256) (hn : n ≤ 4611686018427387904) (hat : at_ ≤ 4611686018427387904) :
    Calls Try.prog 72 #[.pointer (some ⟨B, 0, none⟩)] w fun e w' => ∃ (x sd' : Int), e = .returned (.int .i64 x) ∧ (0 ≤ x ∧ x < 256) ∧ w'.heap[B]? = some (.cells #[.slice A n c, .int .i64 ((at_ + 1 : Nat) : Int), .int .u64 sd'] 68 (0, 0)) ∧ w.grownBy w' (some B) := by
  have hl := rd_bytes_len hrd
  go_enter Try.func72, Try.ntmps72
  refine wp_seq_k (fun K1 h1 => ?_)
  refine W.region_quiet [(0, false)] (by kernel_rfl) ?_
  refine W.as (v := .int .i64 0) (h := ?_)
  refine W.endF 62 [(0, .pointer (some ⟨B, 0, none⟩)), (2, .int .i64 0)] (fun U1 => ?_)
  refine h1 _ _ ?_
  refine wp_seq_k (fun K2 h2 => ?_)
  refine W.region_quiet [(0, false)] (by kernel_rfl) ?_
  refine W.as (v := .int .i64 0) (h := ?_)
  refine W.endF 62 [(0, .pointer (some ⟨B, 0, none⟩)), (2, .int .i64 0), (3, .int .i64 0)] (fun U2 => ?_)
  refine h2 _ _ ?_
  refine wp_seq_k (fun K3 h3 => ?_)
  refine wp_seq_k (fun K4 h4 => ?_)
  refine W.region_sch (row := none) (Sch.of [(0, false), (1, false), (2, false), (3, false), (4, false), (5, false), (6, false), (7, false), (8, false), (9, false)]) (by kernel_rfl) (by kernel_rfl) (fun _ d _ _ _ h => by cases d <;> exact h) (by kernel_rfl) (fun w3 e4 s5 => ?_)
  refine W.mv (v := .pointer (some ⟨B, 0, none⟩)) (h := ?_)
  refine W.q (v := .pointer (some ⟨B, 0, none⟩)) (hr := (r_nilCheck rfl (by kernel_rfl))) (h := ?_)
  refine W.q (v := .pointer (some ⟨B, 1, none⟩)) (hr := (r_field (k := 1) rfl (by kernel_rfl) (by kernel_rfl))) (h := ?_)
  refine W.ld (v := .int .i64 ((at_ : Nat) : Int)) (hc := (sgS (blk_cell (j := 1) hB (by kernel_rfl)) (by simp))) (h := ?_)
  refine W.mv (v := .pointer (some ⟨B, 0, none⟩)) (h := ?_)
  refine W.q (v := .pointer (some ⟨B, 0, none⟩)) (hr := (r_nilCheck rfl (by kernel_rfl))) (h := ?_)
  refine W.q (v := .pointer (some ⟨B, 0, none⟩)) (hr := (r_field0 rfl (by kernel_rfl) (by kernel_rfl))) (h := ?_)
  refine W.ld (v := .slice A n c) (hc := (sgS (blk_cell (j := 0) hB (by kernel_rfl)) (by simp))) (h := ?_)
  refine W.q (v := .int .i64 ((n : Nat) : Int)) (hr := (r_len (A := A) (n := n) (c := c) rfl (by kernel_rfl) (by kernel_rfl))) (h := ?_)
  by_cases q6 : (((at_ : Nat) : Int) : Int) < (((n : Nat) : Int) : Int)
  · refine W.q (v := .bool true) (hr := (r_lss (m := ((at_ : Nat) : Int)) (n := ((n : Nat) : Int)) rfl (by kernel_rfl) (by kernel_rfl) (decide_eq_true q6))) (h := ?_)
    refine W.endF 62 [(0, .pointer (some ⟨B, 0, none⟩)), (2, .int .i64 0), (3, .int .i64 0), (13, .bool true)] (fun U7 => ?_)
    have hB := SG.blk s5 hB (by simp)
    have c8 := (SG.fr (B := B) (World.grownBy.refl _ _) s5 (fun kq e => by cases e))
    have rd9 := Rd.kept hrd (SG.below s5)
    refine h4 _ _ ?_
    refine wp_cond_true (by kernel_rfl) ?_
    refine W.region_sch (row := none) (Sch.of [(0, false), (1, false), (2, false), (3, false), (4, false), (5, false), (6, false), (7, false), (8, false), (9, false), (10, false), (11, false)]) (by kernel_rfl) (by kernel_rfl) (fun _ d _ _ _ h => by cases d <;> exact h) (by kernel_rfl) (fun w10 e11 s12 => ?_)
    refine W.mv (v := .pointer (some ⟨B, 0, none⟩)) (h := ?_)
    refine W.q (v := .pointer (some ⟨B, 0, none⟩)) (hr := (r_nilCheck rfl (by kernel_rfl))) (h := ?_)
    refine W.q (v := .pointer (some ⟨B, 0, none⟩)) (hr := (r_field0 rfl (by kernel_rfl) (by kernel_rfl))) (h := ?_)
    refine W.ld (v := .slice A n c) (hc := (sgS (blk_cell (j := 0) hB (by kernel_rfl)) (by simp))) (h := ?_)
    refine W.mv (v := .pointer (some ⟨B, 0, none⟩)) (h := ?_)
    refine W.q (v := .pointer (some ⟨B, 0, none⟩)) (hr := (r_nilCheck rfl (by kernel_rfl))) (h := ?_)
    refine W.q (v := .pointer (some ⟨B, 1, none⟩)) (hr := (r_field (k := 1) rfl (by kernel_rfl) (by kernel_rfl))) (h := ?_)
    refine W.ld (v := .int .i64 ((at_ : Nat) : Int)) (hc := (sgS (blk_cell (j := 1) hB (by kernel_rfl)) (by simp))) (h := ?_)
    obtain ⟨x13, hx14⟩ := get_of (zs := zs) (k := at_) (by have := hl; omega)
    obtain ⟨b15, o16, hA17, hb18, hc19⟩ := Rd.elByte rd9 hx14
    refine W.q (v := .pointer (some ⟨b15, o16 + at_, none⟩)) (hr := (r_idx1 (n := n) (c := c) (k := at_) rfl (by kernel_rfl) hA17 (by kernel_rfl) (by kernel_rfl) (by have := hl; omega))) (h := ?_)
    refine W.ld (v := .int .u8 x13) (hc := (sgS hc19 (by simp))) (h := ?_)
    have hx9 := hz _ (List.mem_of_getElem? hx14)
    refine W.q (v := .int .i64 x13) (hr := (r_conv (k := .u8) (k' := .i64) (n := x13) (m := x13) rfl (by kernel_rfl) (by kernel_rfl) (by kernel_rfl) (wrap_i64 (by omega) (by omega)))) (h := ?_)
    refine W.as (v := .int .i64 x13) (h := ?_)
    refine W.endF 62 [(0, .pointer (some ⟨B, 0, none⟩)), (2, .int .i64 0), (3, .int .i64 x13), (13, .bool true)] (fun U20 => ?_)
    have hB := SG.blk s12 hB (by simp)
    have c21 := (SG.fr (B := B) c8 s12 (fun kq e => by cases e))
    have rd22 := Rd.kept rd9 (SG.below s12)
    refine h3 _ _ ?_
    refine wp_seq_k (fun K5 h5 => ?_)
    refine W.region_plain (row := (some B)) [(0, false), (1, false), (2, false), (3, true), (4, false), (5, false), (6, false), (7, true)] (by kernel_rfl) ?_
    have s23 := SG.self w10 (some B)
    refine W.mv (v := .pointer (some ⟨B, 0, none⟩)) (h := ?_)
    refine W.q (v := .pointer (some ⟨B, 0, none⟩)) (hr := (r_nilCheck rfl (by kernel_rfl))) (h := ?_)
    refine W.q (v := .pointer (some ⟨B, 1, none⟩)) (hr := (r_field (k := 1) rfl (by kernel_rfl) (by kernel_rfl))) (h := ?_)
    refine W.slq (v := .int .i64 ((at_ : Nat) : Int)) s23 rfl (r_load rfl (by kernel_rfl) (by kernel_rfl) (eqS (blk_cell (j := 1) hB (by kernel_rfl)))) (by kernel_rfl) rfl ?_
    refine W.q (v := .int .i64 ((at_ + 1 : Nat) : Int)) (hr := (r_add (m := ((at_ : Nat) : Int)) (n := 1) (z := ((at_ + 1 : Nat) : Int)) rfl (by kernel_rfl) (by kernel_rfl) (by omega) (by omega))) (h := ?_)
    refine W.q (v := .pointer (some ⟨B, 0, none⟩)) (hr := (r_nilCheck rfl (by kernel_rfl))) (h := ?_)
    refine W.q (v := .pointer (some ⟨B, 1, none⟩)) (hr := (r_field (k := 1) rfl (by kernel_rfl) (by kernel_rfl))) (h := ?_)
    refine W.ss (v := .int .i64 ((at_ + 1 : Nat) : Int)) (j := 1) (news := [.int .i64 ((at_ + 1 : Nat) : Int)]) (cs' := #[.slice A n c, .int .i64 ((at_ + 1 : Nat) : Int), .int .u64 sd]) s23 rfl (by kernel_rfl) rfl rfl (by kernel_rfl) (by kernel_rfl) hB (by kernel_rfl) (by kernel_rfl) (by simp) (by kernel_rfl) (by kernel_rfl) (.inl rfl) (fun w24 g25 x26 s27 => ?_)
    refine W.endF 62 [(0, .pointer (some ⟨B, 0, none⟩)), (2, .int .i64 0), (3, .int .i64 x13), (13, .bool true)] (fun U28 => ?_)
    have c29 := (SG.fr (B := B) c21 s27 (fun kq e => .inl (by cases e; rfl)))
    have rd30 := rd_sep rd22 s27 hsp
    refine h5 _ _ ?_
    refine wp_seq_k (fun K6 h6 => ?_)
    refine W.region_plain (row := (some B)) [(0, false), (1, false), (2, false), (3, false), (4, true), (5, false), (6, false), (7, false), (8, false), (9, false), (10, false), (11, false), (12, true)] (by kernel_rfl) ?_
    have s31 := SG.self w24 (some B)
    refine W.mv (v := .pointer (some ⟨B, 0, none⟩)) (h := ?_)
    refine W.mv (v := .pointer (some ⟨B, 0, none⟩)) (h := ?_)
    refine W.q (v := .pointer (some ⟨B, 0, none⟩)) (hr := (r_nilCheck rfl (by kernel_rfl))) (h := ?_)
    refine W.q (v := .pointer (some ⟨B, 2, none⟩)) (hr := (r_field (k := 2) rfl (by kernel_rfl) (by kernel_rfl))) (h := ?_)
    refine W.slq (v := .int .u64 sd) s31 rfl (r_load rfl (by kernel_rfl) (by kernel_rfl) (eqS (blk_cell (j := 2) x26 (by kernel_rfl)))) (by kernel_rfl) rfl ?_
    refine W.q (v := .int .u64 (IntKind.u64.wrap (sd * 6364136223846793005))) (hr := (r_mulK (k := .u64) (m := sd) (n := 6364136223846793005) (z := (IntKind.u64.wrap (sd * 6364136223846793005))) rfl (by kernel_rfl) (by kernel_rfl) (rfl))) (h := ?_)
    refine W.mv (v := .int .i64 x13) (h := ?_)
    refine W.q (v := .int .u64 (IntKind.u64.wrap x13)) (hr := (r_conv (k := .i64) (k' := .u64) (n := x13) (m := (IntKind.u64.wrap x13)) rfl (by kernel_rfl) (by kernel_rfl) (by kernel_rfl) (rfl))) (h := ?_)
    refine W.q (v := .int .u64 (IntKind.u64.wrap ((IntKind.u64.wrap (sd * 6364136223846793005)) + (IntKind.u64.wrap x13)))) (hr := (r_addK (k := .u64) (m := (IntKind.u64.wrap (sd * 6364136223846793005))) (n := (IntKind.u64.wrap x13)) (z := (IntKind.u64.wrap ((IntKind.u64.wrap (sd * 6364136223846793005)) + (IntKind.u64.wrap x13)))) rfl (by kernel_rfl) (by kernel_rfl) (rfl))) (h := ?_)
    refine W.q (v := .int .u64 (IntKind.u64.wrap ((IntKind.u64.wrap ((IntKind.u64.wrap (sd * 6364136223846793005)) + (IntKind.u64.wrap x13))) + 853853))) (hr := (r_addK (k := .u64) (m := (IntKind.u64.wrap ((IntKind.u64.wrap (sd * 6364136223846793005)) + (IntKind.u64.wrap x13)))) (n := 853853) (z := (IntKind.u64.wrap ((IntKind.u64.wrap ((IntKind.u64.wrap (sd * 6364136223846793005)) + (IntKind.u64.wrap x13))) + 853853))) rfl (by kernel_rfl) (by kernel_rfl) (rfl))) (h := ?_)
    refine W.q (v := .pointer (some ⟨B, 0, none⟩)) (hr := (r_nilCheck rfl (by kernel_rfl))) (h := ?_)
    refine W.q (v := .pointer (some ⟨B, 2, none⟩)) (hr := (r_field (k := 2) rfl (by kernel_rfl) (by kernel_rfl))) (h := ?_)
    refine W.ss (v := .int .u64 (IntKind.u64.wrap ((IntKind.u64.wrap ((IntKind.u64.wrap (sd * 6364136223846793005)) + (IntKind.u64.wrap x13))) + 853853))) (j := 2) (news := [.int .u64 (IntKind.u64.wrap ((IntKind.u64.wrap ((IntKind.u64.wrap (sd * 6364136223846793005)) + (IntKind.u64.wrap x13))) + 853853))]) (cs' := #[.slice A n c, .int .i64 ((at_ + 1 : Nat) : Int), .int .u64 (IntKind.u64.wrap ((IntKind.u64.wrap ((IntKind.u64.wrap (sd * 6364136223846793005)) + (IntKind.u64.wrap x13))) + 853853))]) s31 rfl (by kernel_rfl) rfl rfl (by kernel_rfl) (by kernel_rfl) x26 (by kernel_rfl) (by kernel_rfl) (by simp) (by kernel_rfl) (by kernel_rfl) (.inl rfl) (fun w32 g33 x34 s35 => ?_)
    refine W.endF 62 [(0, .pointer (some ⟨B, 0, none⟩)), (2, .int .i64 0), (3, .int .i64 x13), (13, .bool true)] (fun U36 => ?_)
    have c37 := (SG.fr (B := B) c29 s35 (fun kq e => .inl (by cases e; rfl)))
    have rd38 := rd_sep rd30 s35 hsp
    refine h6 _ _ ?_
    refine wp_seq_k (fun K7 h7 => ?_)
    refine wp_seq_k (fun K8 h8 => ?_)
    refine W.region_sch (row := none) (Sch.of [(0, false), (1, false), (2, false), (3, false), (4, false), (5, false), (6, false), (7, false), (8, false), (9, false)]) (by kernel_rfl) (by kernel_rfl) (fun _ d _ _ _ h => by cases d <;> exact h) (by kernel_rfl) (fun w39 e40 s41 => ?_)
    refine W.mv (v := .pointer (some ⟨B, 0, none⟩)) (h := ?_)
    refine W.q (v := .pointer (some ⟨B, 0, none⟩)) (hr := (r_nilCheck rfl (by kernel_rfl))) (h := ?_)
    refine W.q (v := .pointer (some ⟨B, 1, none⟩)) (hr := (r_field (k := 1) rfl (by kernel_rfl) (by kernel_rfl))) (h := ?_)
    refine W.ld (v := .int .i64 ((at_ + 1 : Nat) : Int)) (hc := (sgS (blk_cell (j := 1) x34 (by kernel_rfl)) (by simp))) (h := ?_)
    refine W.mv (v := .pointer (some ⟨B, 0, none⟩)) (h := ?_)
    refine W.q (v := .pointer (some ⟨B, 0, none⟩)) (hr := (r_nilCheck rfl (by kernel_rfl))) (h := ?_)
    refine W.q (v := .pointer (some ⟨B, 0, none⟩)) (hr := (r_field0 rfl (by kernel_rfl) (by kernel_rfl))) (h := ?_)
    refine W.ld (v := .slice A n c) (hc := (sgS (blk_cell (j := 0) x34 (by kernel_rfl)) (by simp))) (h := ?_)
    refine W.q (v := .int .i64 ((n : Nat) : Int)) (hr := (r_len (A := A) (n := n) (c := c) rfl (by kernel_rfl) (by kernel_rfl))) (h := ?_)
    by_cases q42 : (((at_ + 1 : Nat) : Int) : Int) ≤ (((n : Nat) : Int) : Int)
    · refine W.q (v := .bool true) (hr := (r_leq (m := ((at_ + 1 : Nat) : Int)) (n := ((n : Nat) : Int)) rfl (by kernel_rfl) (by kernel_rfl) (decide_eq_true q42))) (h := ?_)
      refine W.endF 62 [(0, .pointer (some ⟨B, 0, none⟩)), (2, .int .i64 0), (3, .int .i64 x13), (13, .bool true), (53, .bool true)] (fun U43 => ?_)
      have x34 := SG.blk s41 x34 (by simp)
      have c44 := (SG.fr (B := B) c37 s41 (fun kq e => by cases e))
      have rd45 := Rd.kept rd38 (SG.below s41)
      refine h8 _ _ ?_
      refine wp_cond_true (by kernel_rfl) ?_
      refine wp_seq_k (fun K9 h9 => ?_)
      refine W.region_quiet [(0, false), (1, false)] (by kernel_rfl) ?_
      refine W.mv (v := .int .i64 x13) (h := ?_)
      refine W.as (v := .int .i64 x13) (h := ?_)
      refine W.endF 62 [(0, .pointer (some ⟨B, 0, none⟩)), (2, .int .i64 x13), (3, .int .i64 x13), (13, .bool true), (53, .bool true)] (fun U46 => ?_)
      refine h9 _ _ ?_
      refine wp_ret ?_
      try simp only [Exit.then]
      refine ret1 (v := .int .i64 x13) rfl (by kernel_rfl) ?_
      exact ⟨_, _, rfl, ⟨by omega, by omega⟩, x34, c44⟩
    · refine W.q (v := .bool false) (hr := (r_leq (m := ((at_ + 1 : Nat) : Int)) (n := ((n : Nat) : Int)) rfl (by kernel_rfl) (by kernel_rfl) (decide_eq_false q42))) (h := ?_)
      refine W.endF 62 [(0, .pointer (some ⟨B, 0, none⟩)), (2, .int .i64 0), (3, .int .i64 x13), (13, .bool true), (53, .bool false)] (fun U47 => ?_)
      have x34 := SG.blk s41 x34 (by simp)
      have c48 := (SG.fr (B := B) c37 s41 (fun kq e => by cases e))
      have rd49 := Rd.kept rd38 (SG.below s41)
      refine h8 _ _ ?_
      refine wp_cond_false (by kernel_rfl) ?_
      refine wp_skip ?_
      refine h7 _ _ ?_
      refine wp_seq_k (fun K10 h10 => ?_)
      refine W.region_quiet [(0, false), (1, false), (2, false), (3, false), (4, false), (5, false), (6, false), (7, false)] (by kernel_rfl) ?_
      refine W.mv (v := .pointer (some ⟨B, 0, none⟩)) (h := ?_)
      refine W.q (v := .pointer (some ⟨B, 0, none⟩)) (hr := (r_nilCheck rfl (by kernel_rfl))) (h := ?_)
      refine W.q (v := .pointer (some ⟨B, 2, none⟩)) (hr := (r_field (k := 2) rfl (by kernel_rfl) (by kernel_rfl))) (h := ?_)
      refine W.ld (v := .int .u64 (IntKind.u64.wrap ((IntKind.u64.wrap ((IntKind.u64.wrap (sd * 6364136223846793005)) + (IntKind.u64.wrap x13))) + 853853))) (hc := (eqS (blk_cell (j := 2) x34 (by kernel_rfl)))) (h := ?_)
      refine W.q (v := .int .u64 ((IntKind.u64.wrap ((IntKind.u64.wrap ((IntKind.u64.wrap (sd * 6364136223846793005)) + (IntKind.u64.wrap x13))) + 853853)) / 2 ^ 40)) (hr := (r_shrZ (z := (IntKind.u64.wrap ((IntKind.u64.wrap ((IntKind.u64.wrap (sd * 6364136223846793005)) + (IntKind.u64.wrap x13))) + 853853))) (k := 40) (yk := .u64) rfl (by kernel_rfl) (by kernel_rfl) (by omega))) (h := ?_)
      refine W.q (v := .int .u64 ((and255 ((IntKind.u64.wrap ((IntKind.u64.wrap ((IntKind.u64.wrap (sd * 6364136223846793005)) + (IntKind.u64.wrap x13))) + 853853)) / 2 ^ 40) : Nat) : Int)) (hr := (r_and255 (z := ((IntKind.u64.wrap ((IntKind.u64.wrap ((IntKind.u64.wrap (sd * 6364136223846793005)) + (IntKind.u64.wrap x13))) + 853853)) / 2 ^ 40)) rfl (by kernel_rfl) (by kernel_rfl))) (h := ?_)
      have hx9 := and255_lt ((IntKind.u64.wrap ((IntKind.u64.wrap ((IntKind.u64.wrap (sd * 6364136223846793005)) + (IntKind.u64.wrap x13))) + 853853)) / 2 ^ 40)
      refine W.q (v := .int .i64 ((and255 ((IntKind.u64.wrap ((IntKind.u64.wrap ((IntKind.u64.wrap (sd * 6364136223846793005)) + (IntKind.u64.wrap x13))) + 853853)) / 2 ^ 40) : Nat) : Int)) (hr := (r_conv (k := .u64) (k' := .i64) (n := ((and255 ((IntKind.u64.wrap ((IntKind.u64.wrap ((IntKind.u64.wrap (sd * 6364136223846793005)) + (IntKind.u64.wrap x13))) + 853853)) / 2 ^ 40) : Nat) : Int)) (m := ((and255 ((IntKind.u64.wrap ((IntKind.u64.wrap ((IntKind.u64.wrap (sd * 6364136223846793005)) + (IntKind.u64.wrap x13))) + 853853)) / 2 ^ 40) : Nat) : Int)) rfl (by kernel_rfl) (by kernel_rfl) (by kernel_rfl) (wrap_i64 (by omega) (by omega)))) (h := ?_)
      refine W.as (v := .int .i64 ((and255 ((IntKind.u64.wrap ((IntKind.u64.wrap ((IntKind.u64.wrap (sd * 6364136223846793005)) + (IntKind.u64.wrap x13))) + 853853)) / 2 ^ 40) : Nat) : Int)) (h := ?_)
      refine W.endF 62 [(0, .pointer (some ⟨B, 0, none⟩)), (2, .int .i64 ((and255 ((IntKind.u64.wrap ((IntKind.u64.wrap ((IntKind.u64.wrap (sd * 6364136223846793005)) + (IntKind.u64.wrap x13))) + 853853)) / 2 ^ 40) : Nat) : Int)), (3, .int .i64 x13), (13, .bool true), (53, .bool false)] (fun U50 => ?_)
      refine h10 _ _ ?_
      refine wp_ret ?_
      try simp only [Exit.then]
      refine ret1 (v := .int .i64 ((and255 ((IntKind.u64.wrap ((IntKind.u64.wrap ((IntKind.u64.wrap (sd * 6364136223846793005)) + (IntKind.u64.wrap x13))) + 853853)) / 2 ^ 40) : Nat) : Int)) rfl (by kernel_rfl) ?_
      exact ⟨_, _, rfl, ⟨by omega, by omega⟩, x34, c48⟩
  · refine W.q (v := .bool false) (hr := (r_lss (m := ((at_ : Nat) : Int)) (n := ((n : Nat) : Int)) rfl (by kernel_rfl) (by kernel_rfl) (decide_eq_false q6))) (h := ?_)
    refine W.endF 62 [(0, .pointer (some ⟨B, 0, none⟩)), (2, .int .i64 0), (3, .int .i64 0), (13, .bool false)] (fun U51 => ?_)
    have hB := SG.blk s5 hB (by simp)
    have c52 := (SG.fr (B := B) (World.grownBy.refl _ _) s5 (fun kq e => by cases e))
    have rd53 := Rd.kept hrd (SG.below s5)
    refine h4 _ _ ?_
    refine wp_cond_false (by kernel_rfl) ?_
    refine wp_skip ?_
    refine h3 _ _ ?_
    refine wp_seq_k (fun K11 h11 => ?_)
    refine W.region_plain (row := (some B)) [(0, false), (1, false), (2, false), (3, true), (4, false), (5, false), (6, false), (7, true)] (by kernel_rfl) ?_
    have s54 := SG.self w3 (some B)
    refine W.mv (v := .pointer (some ⟨B, 0, none⟩)) (h := ?_)
    refine W.q (v := .pointer (some ⟨B, 0, none⟩)) (hr := (r_nilCheck rfl (by kernel_rfl))) (h := ?_)
    refine W.q (v := .pointer (some ⟨B, 1, none⟩)) (hr := (r_field (k := 1) rfl (by kernel_rfl) (by kernel_rfl))) (h := ?_)
    refine W.slq (v := .int .i64 ((at_ : Nat) : Int)) s54 rfl (r_load rfl (by kernel_rfl) (by kernel_rfl) (eqS (blk_cell (j := 1) hB (by kernel_rfl)))) (by kernel_rfl) rfl ?_
    refine W.q (v := .int .i64 ((at_ + 1 : Nat) : Int)) (hr := (r_add (m := ((at_ : Nat) : Int)) (n := 1) (z := ((at_ + 1 : Nat) : Int)) rfl (by kernel_rfl) (by kernel_rfl) (by omega) (by omega))) (h := ?_)
    refine W.q (v := .pointer (some ⟨B, 0, none⟩)) (hr := (r_nilCheck rfl (by kernel_rfl))) (h := ?_)
    refine W.q (v := .pointer (some ⟨B, 1, none⟩)) (hr := (r_field (k := 1) rfl (by kernel_rfl) (by kernel_rfl))) (h := ?_)
    refine W.ss (v := .int .i64 ((at_ + 1 : Nat) : Int)) (j := 1) (news := [.int .i64 ((at_ + 1 : Nat) : Int)]) (cs' := #[.slice A n c, .int .i64 ((at_ + 1 : Nat) : Int), .int .u64 sd]) s54 rfl (by kernel_rfl) rfl rfl (by kernel_rfl) (by kernel_rfl) hB (by kernel_rfl) (by kernel_rfl) (by simp) (by kernel_rfl) (by kernel_rfl) (.inl rfl) (fun w55 g56 x57 s58 => ?_)
    refine W.endF 62 [(0, .pointer (some ⟨B, 0, none⟩)), (2, .int .i64 0), (3, .int .i64 0), (13, .bool false)] (fun U59 => ?_)
    have c60 := (SG.fr (B := B) c52 s58 (fun kq e => .inl (by cases e; rfl)))
    have rd61 := rd_sep rd53 s58 hsp
    refine h11 _ _ ?_
    refine wp_seq_k (fun K12 h12 => ?_)
    refine W.region_plain (row := (some B)) [(0, false), (1, false), (2, false), (3, false), (4, true), (5, false), (6, false), (7, false), (8, false), (9, false), (10, false), (11, false), (12, true)] (by kernel_rfl) ?_
    have s62 := SG.self w55 (some B)
    refine W.mv (v := .pointer (some ⟨B, 0, none⟩)) (h := ?_)
    refine W.mv (v := .pointer (some ⟨B, 0, none⟩)) (h := ?_)
    refine W.q (v := .pointer (some ⟨B, 0, none⟩)) (hr := (r_nilCheck rfl (by kernel_rfl))) (h := ?_)
    refine W.q (v := .pointer (some ⟨B, 2, none⟩)) (hr := (r_field (k := 2) rfl (by kernel_rfl) (by kernel_rfl))) (h := ?_)
    refine W.slq (v := .int .u64 sd) s62 rfl (r_load rfl (by kernel_rfl) (by kernel_rfl) (eqS (blk_cell (j := 2) x57 (by kernel_rfl)))) (by kernel_rfl) rfl ?_
    refine W.q (v := .int .u64 (IntKind.u64.wrap (sd * 6364136223846793005))) (hr := (r_mulK (k := .u64) (m := sd) (n := 6364136223846793005) (z := (IntKind.u64.wrap (sd * 6364136223846793005))) rfl (by kernel_rfl) (by kernel_rfl) (rfl))) (h := ?_)
    refine W.mv (v := .int .i64 0) (h := ?_)
    refine W.q (v := .int .u64 (IntKind.u64.wrap 0)) (hr := (r_conv (k := .i64) (k' := .u64) (n := 0) (m := (IntKind.u64.wrap 0)) rfl (by kernel_rfl) (by kernel_rfl) (by kernel_rfl) (rfl))) (h := ?_)
    refine W.q (v := .int .u64 (IntKind.u64.wrap ((IntKind.u64.wrap (sd * 6364136223846793005)) + (IntKind.u64.wrap 0)))) (hr := (r_addK (k := .u64) (m := (IntKind.u64.wrap (sd * 6364136223846793005))) (n := (IntKind.u64.wrap 0)) (z := (IntKind.u64.wrap ((IntKind.u64.wrap (sd * 6364136223846793005)) + (IntKind.u64.wrap 0)))) rfl (by kernel_rfl) (by kernel_rfl) (rfl))) (h := ?_)
    refine W.q (v := .int .u64 (IntKind.u64.wrap ((IntKind.u64.wrap ((IntKind.u64.wrap (sd * 6364136223846793005)) + (IntKind.u64.wrap 0))) + 853853))) (hr := (r_addK (k := .u64) (m := (IntKind.u64.wrap ((IntKind.u64.wrap (sd * 6364136223846793005)) + (IntKind.u64.wrap 0)))) (n := 853853) (z := (IntKind.u64.wrap ((IntKind.u64.wrap ((IntKind.u64.wrap (sd * 6364136223846793005)) + (IntKind.u64.wrap 0))) + 853853))) rfl (by kernel_rfl) (by kernel_rfl) (rfl))) (h := ?_)
    refine W.q (v := .pointer (some ⟨B, 0, none⟩)) (hr := (r_nilCheck rfl (by kernel_rfl))) (h := ?_)
    refine W.q (v := .pointer (some ⟨B, 2, none⟩)) (hr := (r_field (k := 2) rfl (by kernel_rfl) (by kernel_rfl))) (h := ?_)
    refine W.ss (v := .int .u64 (IntKind.u64.wrap ((IntKind.u64.wrap ((IntKind.u64.wrap (sd * 6364136223846793005)) + (IntKind.u64.wrap 0))) + 853853))) (j := 2) (news := [.int .u64 (IntKind.u64.wrap ((IntKind.u64.wrap ((IntKind.u64.wrap (sd * 6364136223846793005)) + (IntKind.u64.wrap 0))) + 853853))]) (cs' := #[.slice A n c, .int .i64 ((at_ + 1 : Nat) : Int), .int .u64 (IntKind.u64.wrap ((IntKind.u64.wrap ((IntKind.u64.wrap (sd * 6364136223846793005)) + (IntKind.u64.wrap 0))) + 853853))]) s62 rfl (by kernel_rfl) rfl rfl (by kernel_rfl) (by kernel_rfl) x57 (by kernel_rfl) (by kernel_rfl) (by simp) (by kernel_rfl) (by kernel_rfl) (.inl rfl) (fun w63 g64 x65 s66 => ?_)
    refine W.endF 62 [(0, .pointer (some ⟨B, 0, none⟩)), (2, .int .i64 0), (3, .int .i64 0), (13, .bool false)] (fun U67 => ?_)
    have c68 := (SG.fr (B := B) c60 s66 (fun kq e => .inl (by cases e; rfl)))
    have rd69 := rd_sep rd61 s66 hsp
    refine h12 _ _ ?_
    refine wp_seq_k (fun K13 h13 => ?_)
    refine wp_seq_k (fun K14 h14 => ?_)
    refine W.region_sch (row := none) (Sch.of [(0, false), (1, false), (2, false), (3, false), (4, false), (5, false), (6, false), (7, false), (8, false), (9, false)]) (by kernel_rfl) (by kernel_rfl) (fun _ d _ _ _ h => by cases d <;> exact h) (by kernel_rfl) (fun w70 e71 s72 => ?_)
    refine W.mv (v := .pointer (some ⟨B, 0, none⟩)) (h := ?_)
    refine W.q (v := .pointer (some ⟨B, 0, none⟩)) (hr := (r_nilCheck rfl (by kernel_rfl))) (h := ?_)
    refine W.q (v := .pointer (some ⟨B, 1, none⟩)) (hr := (r_field (k := 1) rfl (by kernel_rfl) (by kernel_rfl))) (h := ?_)
    refine W.ld (v := .int .i64 ((at_ + 1 : Nat) : Int)) (hc := (sgS (blk_cell (j := 1) x65 (by kernel_rfl)) (by simp))) (h := ?_)
    refine W.mv (v := .pointer (some ⟨B, 0, none⟩)) (h := ?_)
    refine W.q (v := .pointer (some ⟨B, 0, none⟩)) (hr := (r_nilCheck rfl (by kernel_rfl))) (h := ?_)
    refine W.q (v := .pointer (some ⟨B, 0, none⟩)) (hr := (r_field0 rfl (by kernel_rfl) (by kernel_rfl))) (h := ?_)
    refine W.ld (v := .slice A n c) (hc := (sgS (blk_cell (j := 0) x65 (by kernel_rfl)) (by simp))) (h := ?_)
    refine W.q (v := .int .i64 ((n : Nat) : Int)) (hr := (r_len (A := A) (n := n) (c := c) rfl (by kernel_rfl) (by kernel_rfl))) (h := ?_)
    by_cases q73 : (((at_ + 1 : Nat) : Int) : Int) ≤ (((n : Nat) : Int) : Int)
    · refine W.q (v := .bool true) (hr := (r_leq (m := ((at_ + 1 : Nat) : Int)) (n := ((n : Nat) : Int)) rfl (by kernel_rfl) (by kernel_rfl) (decide_eq_true q73))) (h := ?_)
      refine W.endF 62 [(0, .pointer (some ⟨B, 0, none⟩)), (2, .int .i64 0), (3, .int .i64 0), (13, .bool false), (53, .bool true)] (fun U74 => ?_)
      have x65 := SG.blk s72 x65 (by simp)
      have c75 := (SG.fr (B := B) c68 s72 (fun kq e => by cases e))
      have rd76 := Rd.kept rd69 (SG.below s72)
      refine h14 _ _ ?_
      refine wp_cond_true (by kernel_rfl) ?_
      refine wp_seq_k (fun K15 h15 => ?_)
      refine W.region_quiet [(0, false), (1, false)] (by kernel_rfl) ?_
      refine W.mv (v := .int .i64 0) (h := ?_)
      refine W.as (v := .int .i64 0) (h := ?_)
      refine W.endF 62 [(0, .pointer (some ⟨B, 0, none⟩)), (2, .int .i64 0), (3, .int .i64 0), (13, .bool false), (53, .bool true)] (fun U77 => ?_)
      refine h15 _ _ ?_
      refine wp_ret ?_
      try simp only [Exit.then]
      refine ret1 (v := .int .i64 0) rfl (by kernel_rfl) ?_
      exact ⟨_, _, rfl, ⟨by omega, by omega⟩, x65, c75⟩
    · refine W.q (v := .bool false) (hr := (r_leq (m := ((at_ + 1 : Nat) : Int)) (n := ((n : Nat) : Int)) rfl (by kernel_rfl) (by kernel_rfl) (decide_eq_false q73))) (h := ?_)
      refine W.endF 62 [(0, .pointer (some ⟨B, 0, none⟩)), (2, .int .i64 0), (3, .int .i64 0), (13, .bool false), (53, .bool false)] (fun U78 => ?_)
      have x65 := SG.blk s72 x65 (by simp)
      have c79 := (SG.fr (B := B) c68 s72 (fun kq e => by cases e))
      have rd80 := Rd.kept rd69 (SG.below s72)
      refine h14 _ _ ?_
      refine wp_cond_false (by kernel_rfl) ?_
      refine wp_skip ?_
      refine h13 _ _ ?_
      refine wp_seq_k (fun K16 h16 => ?_)
      refine W.region_quiet [(0, false), (1, false), (2, false), (3, false), (4, false), (5, false), (6, false), (7, false)] (by kernel_rfl) ?_
      refine W.mv (v := .pointer (some ⟨B, 0, none⟩)) (h := ?_)
      refine W.q (v := .pointer (some ⟨B, 0, none⟩)) (hr := (r_nilCheck rfl (by kernel_rfl))) (h := ?_)
      refine W.q (v := .pointer (some ⟨B, 2, none⟩)) (hr := (r_field (k := 2) rfl (by kernel_rfl) (by kernel_rfl))) (h := ?_)
      refine W.ld (v := .int .u64 (IntKind.u64.wrap ((IntKind.u64.wrap ((IntKind.u64.wrap (sd * 6364136223846793005)) + (IntKind.u64.wrap 0))) + 853853))) (hc := (eqS (blk_cell (j := 2) x65 (by kernel_rfl)))) (h := ?_)
      refine W.q (v := .int .u64 ((IntKind.u64.wrap ((IntKind.u64.wrap ((IntKind.u64.wrap (sd * 6364136223846793005)) + (IntKind.u64.wrap 0))) + 853853)) / 2 ^ 40)) (hr := (r_shrZ (z := (IntKind.u64.wrap ((IntKind.u64.wrap ((IntKind.u64.wrap (sd * 6364136223846793005)) + (IntKind.u64.wrap 0))) + 853853))) (k := 40) (yk := .u64) rfl (by kernel_rfl) (by kernel_rfl) (by omega))) (h := ?_)
      refine W.q (v := .int .u64 ((and255 ((IntKind.u64.wrap ((IntKind.u64.wrap ((IntKind.u64.wrap (sd * 6364136223846793005)) + (IntKind.u64.wrap 0))) + 853853)) / 2 ^ 40) : Nat) : Int)) (hr := (r_and255 (z := ((IntKind.u64.wrap ((IntKind.u64.wrap ((IntKind.u64.wrap (sd * 6364136223846793005)) + (IntKind.u64.wrap 0))) + 853853)) / 2 ^ 40)) rfl (by kernel_rfl) (by kernel_rfl))) (h := ?_)
      have hx9 := and255_lt ((IntKind.u64.wrap ((IntKind.u64.wrap ((IntKind.u64.wrap (sd * 6364136223846793005)) + (IntKind.u64.wrap 0))) + 853853)) / 2 ^ 40)
      refine W.q (v := .int .i64 ((and255 ((IntKind.u64.wrap ((IntKind.u64.wrap ((IntKind.u64.wrap (sd * 6364136223846793005)) + (IntKind.u64.wrap 0))) + 853853)) / 2 ^ 40) : Nat) : Int)) (hr := (r_conv (k := .u64) (k' := .i64) (n := ((and255 ((IntKind.u64.wrap ((IntKind.u64.wrap ((IntKind.u64.wrap (sd * 6364136223846793005)) + (IntKind.u64.wrap 0))) + 853853)) / 2 ^ 40) : Nat) : Int)) (m := ((and255 ((IntKind.u64.wrap ((IntKind.u64.wrap ((IntKind.u64.wrap (sd * 6364136223846793005)) + (IntKind.u64.wrap 0))) + 853853)) / 2 ^ 40) : Nat) : Int)) rfl (by kernel_rfl) (by kernel_rfl) (by kernel_rfl) (wrap_i64 (by omega) (by omega)))) (h := ?_)
      refine W.as (v := .int .i64 ((and255 ((IntKind.u64.wrap ((IntKind.u64.wrap ((IntKind.u64.wrap (sd * 6364136223846793005)) + (IntKind.u64.wrap 0))) + 853853)) / 2 ^ 40) : Nat) : Int)) (h := ?_)
      refine W.endF 62 [(0, .pointer (some ⟨B, 0, none⟩)), (2, .int .i64 ((and255 ((IntKind.u64.wrap ((IntKind.u64.wrap ((IntKind.u64.wrap (sd * 6364136223846793005)) + (IntKind.u64.wrap 0))) + 853853)) / 2 ^ 40) : Nat) : Int)), (3, .int .i64 0), (13, .bool false), (53, .bool false)] (fun U81 => ?_)
      refine h16 _ _ ?_
      refine wp_ret ?_
      try simp only [Exit.then]
      refine ret1 (v := .int .i64 ((and255 ((IntKind.u64.wrap ((IntKind.u64.wrap ((IntKind.u64.wrap (sd * 6364136223846793005)) + (IntKind.u64.wrap 0))) + 853853)) / 2 ^ 40) : Nat) : Int)) rfl (by kernel_rfl) ?_
      exact ⟨_, _, rfl, ⟨by omega, by omega⟩, x65, c79⟩

theorem next_any (B N k : Nat) (w : World) (h : Cur w B N k) (hk : k ≤ 4000000000000000000) : Calls Try.prog 72 #[.pointer (some ⟨B, 0, none⟩)] w fun e w' => ∃ x, e = .returned (.int .i64 x) ∧ (0 ≤ x ∧ x < 256) ∧ Cur w' B N (k + 1) ∧ w.grownBy w' (some B) := by
  obtain ⟨A, n, c, zs, at_, sd, h1, h2, h3, h4, h5, h6, h7⟩ := h
  have hsp : Sp A n (some B) := fun hp b off e e2 => by
    have := h7 b off hp e
    cases e2; omega
  exact (next_raw B A n c zs at_ sd w h1 h2 hsp h3 h4 (by omega)).mono fun e w' ⟨x, sd', he, hx, hb, hg⟩ => ⟨x, he, hx, ⟨A, n, c, zs, at_ + 1, sd', hb, rd_sepG h2 hg hsp, h3, h4, by omega, h6, h7⟩, hg⟩

set_option maxRecDepth 100000 in
set_option maxHeartbeats 1000000 in
theorem pick_any (B N k : Nat) (n : Int) (w : World) (hc : Cur w B N k) (hk : k ≤ 1000000000000) (hn : n ≤ 9223372036854775807) :
    Calls Try.prog 65 #[.pointer (some ⟨B, 0, none⟩), .int .i64 n] w fun e w' => ∃ x, e = .returned (.int .i64 x) ∧ (0 ≤ x ∧ (n ≤ 1 → x = 0) ∧ (1 < n → x < n)) ∧ Cur w' B N (k + 2) ∧ w.grownBy w' (some B) := by
  have hN := Cur.hN hc
  go_enter Try.func65, Try.ntmps65
  refine wp_seq_k (fun K1 h1 => ?_)
  refine W.region_quiet [(0, false)] (by kernel_rfl) ?_
  refine W.as (v := .int .i64 0) (h := ?_)
  refine W.endF 20 [(0, .pointer (some ⟨B, 0, none⟩)), (1, .int .i64 n), (4, .int .i64 0)] (fun U1 => ?_)
  refine h1 _ _ ?_
  refine wp_seq_k (fun K2 h2 => ?_)
  refine wp_seq_k (fun K3 h3 => ?_)
  refine W.region_quiet [(0, false), (1, false)] (by kernel_rfl) ?_
  refine W.mv (v := .int .i64 n) (h := ?_)
  by_cases q2 : (n : Int) ≤ (1 : Int)
  · refine W.q (v := .bool true) (hr := (r_leq (m := n) (n := 1) rfl (by kernel_rfl) (by kernel_rfl) (decide_eq_true q2))) (h := ?_)
    refine W.endF 20 [(0, .pointer (some ⟨B, 0, none⟩)), (1, .int .i64 n), (4, .int .i64 0), (7, .bool true)] (fun U3 => ?_)
    refine h3 _ _ ?_
    refine wp_cond_true (by kernel_rfl) ?_
    refine wp_seq_k (fun K4 h4 => ?_)
    refine W.region_quiet [(0, false)] (by kernel_rfl) ?_
    refine W.as (v := .int .i64 0) (h := ?_)
    refine W.endF 20 [(0, .pointer (some ⟨B, 0, none⟩)), (1, .int .i64 n), (4, .int .i64 0), (7, .bool true)] (fun U4 => ?_)
    refine h4 _ _ ?_
    refine wp_ret ?_
    try simp only [Exit.then]
    refine ret1 (v := .int .i64 0) rfl (by kernel_rfl) ?_
    exact ⟨_, rfl, ⟨by omega, fun _ => by omega, fun _ => by omega⟩, Cur.mono hc (by omega), (World.grownBy.refl _ _)⟩
  · refine W.q (v := .bool false) (hr := (r_leq (m := n) (n := 1) rfl (by kernel_rfl) (by kernel_rfl) (decide_eq_false q2))) (h := ?_)
    refine W.endF 20 [(0, .pointer (some ⟨B, 0, none⟩)), (1, .int .i64 n), (4, .int .i64 0), (7, .bool false)] (fun U5 => ?_)
    refine h3 _ _ ?_
    refine wp_cond_false (by kernel_rfl) ?_
    refine wp_skip ?_
    refine h2 _ _ ?_
    refine wp_seq_k (fun K5 h5 => ?_)
    refine W.region_plain (row := (some B)) [(0, false), (1, true), (2, false)] (by kernel_rfl) ?_
    have s6 := SG.self w (some B)
    refine W.mv (v := .pointer (some ⟨B, 0, none⟩)) (h := ?_)
    refine W.sc (vs := [.pointer (some ⟨B, 0, none⟩)]) rfl rfl (by kernel_rfl) (by kernel_rfl) (by kernel_rfl) rfl (next_any B N k  _ hc (by omega) ) ?_
    rintro e w10 ⟨x7, rfl, hx8, x12, g11⟩
    have s13 := SG.of_grown s6 g11 (.inl rfl)
    refine ⟨_, rfl, s13, ?_⟩
    refine W.as (v := .int .i64 x7) (h := ?_)
    refine W.endF 20 [(0, .pointer (some ⟨B, 0, none⟩)), (1, .int .i64 n), (4, .int .i64 0), (5, .int .i64 x7), (7, .bool false)] (fun U14 => ?_)
    have c15 := (SG.fr (B := B) (World.grownBy.refl _ _) s13 (fun kq e => .inl (by cases e; rfl)))
    refine h5 _ _ ?_
    refine wp_seq_k (fun K6 h6 => ?_)
    refine wp_seq_k (fun K7 h7 => ?_)
    refine W.region_quiet [(0, false), (1, false)] (by kernel_rfl) ?_
    refine W.mv (v := .int .i64 n) (h := ?_)
    by_cases q16 : (n : Int) > (200 : Int)
    · refine W.q (v := .bool true) (hr := (r_gtr (m := n) (n := 200) rfl (by kernel_rfl) (by kernel_rfl) (decide_eq_true q16))) (h := ?_)
      refine W.endF 20 [(0, .pointer (some ⟨B, 0, none⟩)), (1, .int .i64 n), (4, .int .i64 0), (5, .int .i64 x7), (7, .bool false), (11, .bool true)] (fun U17 => ?_)
      refine h7 _ _ ?_
      refine wp_cond_true (by kernel_rfl) ?_
      refine W.region_plain (row := (some B)) [(0, false), (1, false), (2, false), (3, true), (4, false), (5, false)] (by kernel_rfl) ?_
      have s18 := SG.self w10 (some B)
      refine W.mv (v := .int .i64 x7) (h := ?_)
      refine W.q (v := .int .i64 (x7 * 256)) (hr := (r_mulK (k := .i64) (m := x7) (n := 256) (z := (x7 * 256)) rfl (by kernel_rfl) (by kernel_rfl) (wrap_i64 (by omega) (by omega)))) (h := ?_)
      refine W.mv (v := .pointer (some ⟨B, 0, none⟩)) (h := ?_)
      refine W.sc (vs := [.pointer (some ⟨B, 0, none⟩)]) rfl rfl (by kernel_rfl) (by kernel_rfl) (by kernel_rfl) rfl (next_any B N (k + 1)  _ x12 (by omega) ) ?_
      rintro e w22 ⟨x19, rfl, hx20, x24, g23⟩
      have s25 := SG.of_grown s18 g23 (.inl rfl)
      refine ⟨_, rfl, s25, ?_⟩
      refine W.q (v := .int .i64 ((x7 * 256) + x19)) (hr := (r_add (m := (x7 * 256)) (n := x19) (z := (x7 * 256) + x19) rfl (by kernel_rfl) (by kernel_rfl) (rfl) (by omega))) (h := ?_)
      refine W.as (v := .int .i64 ((x7 * 256) + x19)) (h := ?_)
      refine W.endF 20 [(0, .pointer (some ⟨B, 0, none⟩)), (1, .int .i64 n), (4, .int .i64 0), (5, .int .i64 ((x7 * 256) + x19)), (7, .bool false), (11, .bool true)] (fun U26 => ?_)
      have c27 := (SG.fr (B := B) c15 s25 (fun kq e => .inl (by cases e; rfl)))
      refine h6 _ _ ?_
      refine wp_seq_k (fun K8 h8 => ?_)
      refine W.region_quiet [(0, false), (1, false), (2, false), (3, false)] (by kernel_rfl) ?_
      refine W.mv (v := .int .i64 ((x7 * 256) + x19)) (h := ?_)
      refine W.mv (v := .int .i64 n) (h := ?_)
      have hr1 := Int.emod_nonneg ((x7 * 256) + x19) (show n ≠ 0 by omega)
      have hr2 := Int.emod_lt_of_pos ((x7 * 256) + x19) (show 0 < n by omega)
      refine W.q (v := .int .i64 (((x7 * 256) + x19) % n)) (hr := (r_remK (k := .i64) (m := (x7 * 256) + x19) (n := n) (z := (((x7 * 256) + x19) % n)) rfl (by kernel_rfl) (by kernel_rfl) (by omega) (Int.tmod_eq_emod_of_nonneg (by omega)))) (h := ?_)
      refine W.as (v := .int .i64 (((x7 * 256) + x19) % n)) (h := ?_)
      refine W.endF 20 [(0, .pointer (some ⟨B, 0, none⟩)), (1, .int .i64 n), (4, .int .i64 (((x7 * 256) + x19) % n)), (5, .int .i64 ((x7 * 256) + x19)), (7, .bool false), (11, .bool true)] (fun U28 => ?_)
      refine h8 _ _ ?_
      refine wp_ret ?_
      try simp only [Exit.then]
      refine ret1 (v := .int .i64 (((x7 * 256) + x19) % n)) rfl (by kernel_rfl) ?_
      exact ⟨_, rfl, ⟨by omega, fun _ => by omega, fun _ => by omega⟩, Cur.mono x24 (by omega), c27⟩
    · refine W.q (v := .bool false) (hr := (r_gtr (m := n) (n := 200) rfl (by kernel_rfl) (by kernel_rfl) (decide_eq_false q16))) (h := ?_)
      refine W.endF 20 [(0, .pointer (some ⟨B, 0, none⟩)), (1, .int .i64 n), (4, .int .i64 0), (5, .int .i64 x7), (7, .bool false), (11, .bool false)] (fun U29 => ?_)
      refine h7 _ _ ?_
      refine wp_cond_false (by kernel_rfl) ?_
      refine wp_skip ?_
      refine h6 _ _ ?_
      refine wp_seq_k (fun K9 h9 => ?_)
      refine W.region_quiet [(0, false), (1, false), (2, false), (3, false)] (by kernel_rfl) ?_
      refine W.mv (v := .int .i64 x7) (h := ?_)
      refine W.mv (v := .int .i64 n) (h := ?_)
      have hr1 := Int.emod_nonneg x7 (show n ≠ 0 by omega)
      have hr2 := Int.emod_lt_of_pos x7 (show 0 < n by omega)
      refine W.q (v := .int .i64 (x7 % n)) (hr := (r_remK (k := .i64) (m := x7) (n := n) (z := (x7 % n)) rfl (by kernel_rfl) (by kernel_rfl) (by omega) (Int.tmod_eq_emod_of_nonneg (by omega)))) (h := ?_)
      refine W.as (v := .int .i64 (x7 % n)) (h := ?_)
      refine W.endF 20 [(0, .pointer (some ⟨B, 0, none⟩)), (1, .int .i64 n), (4, .int .i64 (x7 % n)), (5, .int .i64 x7), (7, .bool false), (11, .bool false)] (fun U30 => ?_)
      refine h9 _ _ ?_
      refine wp_ret ?_
      try simp only [Exit.then]
      refine ret1 (v := .int .i64 (x7 % n)) rfl (by kernel_rfl) ?_
      exact ⟨_, rfl, ⟨by omega, fun _ => by omega, fun _ => by omega⟩, Cur.mono x12 (by omega), c15⟩

set_option maxRecDepth 100000 in
set_option maxHeartbeats 1000000 in
theorem one_any (B N k : Nat) (n : Int) (w : World) (hc : Cur w B N k) (hk : k ≤ 1000000000000) (hn : n ≤ 9223372036854775807) :
    Calls Try.prog 68 #[.pointer (some ⟨B, 0, none⟩), .int .i64 n] w fun e w' => ∃ b, e = .returned (.bool b) ∧ (True) ∧ Cur w' B N (k + 2) ∧ w.grownBy w' (some B) := by
  have hN := Cur.hN hc
  go_enter Try.func68, Try.ntmps68
  refine wp_seq_k (fun K1 h1 => ?_)
  refine W.region_quiet [(0, false)] (by kernel_rfl) ?_
  refine W.as (v := .bool false) (h := ?_)
  refine W.endF 9 [(0, .pointer (some ⟨B, 0, none⟩)), (1, .int .i64 n), (4, .bool false)] (fun U1 => ?_)
  refine h1 _ _ ?_
  refine wp_seq_k (fun K2 h2 => ?_)
  refine W.region_plain (row := (some B)) [(0, false), (1, false), (2, true), (3, false), (4, false)] (by kernel_rfl) ?_
  have s2 := SG.self w (some B)
  refine W.mv (v := .pointer (some ⟨B, 0, none⟩)) (h := ?_)
  refine W.mv (v := .int .i64 n) (h := ?_)
  refine W.sc (vs := [.pointer (some ⟨B, 0, none⟩), .int .i64 n]) rfl rfl (by kernel_rfl) (by kernel_rfl) (by kernel_rfl) rfl (pick_any B N k n _ hc (by omega) (by omega)) ?_
  rintro e w6 ⟨x3, rfl, hx4, x8, g7⟩
  have s9 := SG.of_grown s2 g7 (.inl rfl)
  refine ⟨_, rfl, s9, ?_⟩
  by_cases q10 : (x3 : Int) = (0 : Int)
  · refine W.q (v := .bool true) (hr := (r_eql (m := x3) (n := 0) rfl (by kernel_rfl) (by kernel_rfl) (decide_eq_true q10))) (h := ?_)
    refine W.as (v := .bool true) (h := ?_)
    refine W.endF 9 [(0, .pointer (some ⟨B, 0, none⟩)), (1, .int .i64 n), (4, .bool true)] (fun U11 => ?_)
    have c12 := (SG.fr (B := B) (World.grownBy.refl _ _) s9 (fun kq e => .inl (by cases e; rfl)))
    refine h2 _ _ ?_
    refine wp_ret ?_
    try simp only [Exit.then]
    refine ret1 (v := .bool true) rfl (by kernel_rfl) ?_
    exact ⟨_, rfl, trivial, Cur.mono x8 (by omega), c12⟩
  · refine W.q (v := .bool false) (hr := (r_eql (m := x3) (n := 0) rfl (by kernel_rfl) (by kernel_rfl) (decide_eq_false q10))) (h := ?_)
    refine W.as (v := .bool false) (h := ?_)
    refine W.endF 9 [(0, .pointer (some ⟨B, 0, none⟩)), (1, .int .i64 n), (4, .bool false)] (fun U13 => ?_)
    have c14 := (SG.fr (B := B) (World.grownBy.refl _ _) s9 (fun kq e => .inl (by cases e; rfl)))
    refine h2 _ _ ?_
    refine wp_ret ?_
    try simp only [Exit.then]
    refine ret1 (v := .bool false) rfl (by kernel_rfl) ?_
    exact ⟨_, rfl, trivial, Cur.mono x8 (by omega), c14⟩

set_option maxRecDepth 100000 in
set_option maxHeartbeats 1000000 in
theorem among_any (B N k : Nat) (A : Option Addr) (n c : Nat) (zs : List Int) (w : World) (hc : Cur w B N k) (hk : k ≤ 1000000000000) (hrd : Rd w 1 A n (intsV zs)) (hsp : Sp A n (some B)) (hn : 0 < n ∧ n ≤ 9223372036854775807) :
    Calls Try.prog 66 #[.pointer (some ⟨B, 0, none⟩), .slice A n c] w fun e w' => ∃ x, e = .returned (.int .i64 x) ∧ (x ∈ zs) ∧ Cur w' B N (k + 2) ∧ w.grownBy w' (some B) := by
  have hN := Cur.hN hc
  have hl := rd_ints_len hrd
  go_enter Try.func66, Try.ntmps66
  refine wp_seq_k (fun K1 h1 => ?_)
  refine W.region_quiet [(0, false)] (by kernel_rfl) ?_
  refine W.as (v := .int .i64 0) (h := ?_)
  refine W.endF 12 [(0, .pointer (some ⟨B, 0, none⟩)), (1, .slice A n c), (4, .int .i64 0)] (fun U1 => ?_)
  refine h1 _ _ ?_
  refine wp_seq_k (fun K2 h2 => ?_)
  refine W.region_plain (row := (some B)) [(0, false), (1, false), (2, false), (3, false), (4, true), (5, false), (6, false), (7, false)] (by kernel_rfl) ?_
  have s2 := SG.self w (some B)
  refine W.mv (v := .slice A n c) (h := ?_)
  refine W.mv (v := .pointer (some ⟨B, 0, none⟩)) (h := ?_)
  refine W.mv (v := .slice A n c) (h := ?_)
  refine W.q (v := .int .i64 ((n : Nat) : Int)) (hr := (r_len (A := A) (n := n) (c := c) rfl (by kernel_rfl) (by kernel_rfl))) (h := ?_)
  refine W.sc (vs := [.pointer (some ⟨B, 0, none⟩), .int .i64 ((n : Nat) : Int)]) rfl rfl (by kernel_rfl) (by kernel_rfl) (by kernel_rfl) rfl (pick_any B N k ((n : Nat) : Int) _ hc (by omega) (by omega)) ?_
  rintro e w6 ⟨x3, rfl, hx4, x8, g7⟩
  have s9 := SG.of_grown s2 g7 (.inl rfl)
  refine ⟨_, rfl, s9, ?_⟩
  obtain ⟨x10, hx11⟩ := get_of (zs := zs) (k := x3.toNat) (by have := hl; omega)
  obtain ⟨b12, o13, hA14, hb15, hc16⟩ := Rd.elInt hrd hx11
  refine W.q (v := .pointer (some ⟨b12, o13 + x3.toNat, none⟩)) (hr := (r_idx1 (n := n) (c := c) (k := x3.toNat) rfl (by kernel_rfl) hA14 (evk (z := x3) (by kernel_rfl) (by omega)) (by kernel_rfl) (by have := hl; omega))) (h := ?_)
  refine W.ld (v := .int .i64 x10) (hc := (sgS hc16 (hsp (by omega) _ _ hA14))) (h := ?_)
  refine W.as (v := .int .i64 x10) (h := ?_)
  refine W.endF 12 [(0, .pointer (some ⟨B, 0, none⟩)), (1, .slice A n c), (4, .int .i64 x10)] (fun U17 => ?_)
  have c18 := (SG.fr (B := B) (World.grownBy.refl _ _) s9 (fun kq e => .inl (by cases e; rfl)))
  have rd19 := rd_sep hrd s9 hsp
  refine h2 _ _ ?_
  refine wp_ret ?_
  try simp only [Exit.then]
  refine ret1 (v := .int .i64 x10) rfl (by kernel_rfl) ?_
  exact ⟨_, rfl, List.mem_of_getElem? hx11, Cur.mono x8 (by omega), c18⟩

end Go.Proofs.Ytdlcldaogcbnlaa
