/- Numbers' texts and texts' numbers: the reference. -/
import Derived.Test.YtdlcldaogcbnlaaDoorIn
import Derived.Test.YtdlcldaogcbnlaaDoorNumP
namespace Go.Proofs.YtdlcldaogcbnlaaDoor
open Go.RowKit
set_option linter.unusedVariables false
set_option linter.unusedSimpArgs false

set_option maxRecDepth 100000 in
set_option maxHeartbeats 1000000 in
theorem l1Num_step (k : Nat) (w : World) (hk : k ≤ 1000000000000000) (IH : ∀ m : Nat, m < k → ∀ w : World, m ≤ 1000000000000000 → Calls Tryd.prog 68 #[.int .i64 ((m : Nat) : Int)] w fun e w' => e = .returned (.string (itoaB ((m : Nat) : Int))) ∧ Below w.heap.size w w') :
    Calls Tryd.prog 68 #[.int .i64 ((k : Nat) : Int)] w fun e w' => e = .returned (.string (itoaB ((k : Nat) : Int))) ∧ Below w.heap.size w w' := by
  go_enter Tryd.func68, Tryd.ntmps68
  refine wp_seq_k (fun K1 h1 => ?_)
  refine W.region_quiet [(0, false)] (by kernel_rfl) ?_
  refine W.as (v := .string (⟨#[]⟩ : ByteArray)) (h := ?_)
  refine W.endF 25 [(0, .int .i64 ((k : Nat) : Int)), (2, .string (⟨#[]⟩ : ByteArray))] (fun U1 => ?_)
  refine h1 _ _ ?_
  refine wp_seq_k (fun K2 h2 => ?_)
  refine wp_seq_k (fun K3 h3 => ?_)
  refine W.region_quiet [(0, false), (1, false)] (by kernel_rfl) ?_
  refine W.mv (v := .int .i64 ((k : Nat) : Int)) (h := ?_)
  refine W.q (v := .bool false) (hr := (r_lss (m := ((k : Nat) : Int)) (n := 0) rfl (by kernel_rfl) (by kernel_rfl) (decide_eq_false (by omega)))) (h := ?_)
  refine W.endF 25 [(0, .int .i64 ((k : Nat) : Int)), (2, .string (⟨#[]⟩ : ByteArray)), (4, .bool false)] (fun U2 => ?_)
  refine h3 _ _ ?_
  refine wp_cond_false (by kernel_rfl) ?_
  refine wp_skip ?_
  refine h2 _ _ ?_
  refine wp_seq_k (fun K4 h4 => ?_)
  refine wp_seq_k (fun K5 h5 => ?_)
  refine W.region_quiet [(0, false), (1, false)] (by kernel_rfl) ?_
  refine W.mv (v := .int .i64 ((k : Nat) : Int)) (h := ?_)
  by_cases q3 : (((k : Nat) : Int) : Int) < (10 : Int)
  · refine W.q (v := .bool true) (hr := (r_lss (m := ((k : Nat) : Int)) (n := 10) rfl (by kernel_rfl) (by kernel_rfl) (decide_eq_true q3))) (h := ?_)
    refine W.endF 25 [(0, .int .i64 ((k : Nat) : Int)), (2, .string (⟨#[]⟩ : ByteArray)), (4, .bool false), (10, .bool true)] (fun U4 => ?_)
    refine h5 _ _ ?_
    refine wp_cond_true (by kernel_rfl) ?_
    refine wp_seq_k (fun K6 h6 => ?_)
    refine W.region_quiet [(0, false), (1, false), (2, false), (3, false), (4, false)] (by kernel_rfl) ?_
    refine W.mv (v := .int .i64 ((k : Nat) : Int)) (h := ?_)
    refine W.mv (v := .int .i64 ((k : Nat) : Int)) (h := ?_)
    refine W.q (v := .int .i64 ((k + 1 : Nat) : Int)) (hr := (r_add (m := ((k : Nat) : Int)) (n := 1) (z := ((k + 1 : Nat) : Int)) rfl (by kernel_rfl) (by kernel_rfl) (by omega) (by omega))) (h := ?_)
    refine W.q (v := .string ((⟨#[48, 49, 50, 51, 52, 53, 54, 55, 56, 57]⟩ : ByteArray).extract k (k + 1))) (hr := (r_cutS (s := (⟨#[48, 49, 50, 51, 52, 53, 54, 55, 56, 57]⟩ : ByteArray)) (l := k) (h := k + 1) rfl (by kernel_rfl) (by kernel_rfl) (by kernel_rfl) (by kernel_rfl) (by omega) (by (try rw [show (⟨#[48, 49, 50, 51, 52, 53, 54, 55, 56, 57]⟩ : ByteArray).size = 10 from rfl]); omega))) (h := ?_)
    refine W.as (v := .string ((⟨#[48, 49, 50, 51, 52, 53, 54, 55, 56, 57]⟩ : ByteArray).extract k (k + 1))) (h := ?_)
    refine W.endF 25 [(0, .int .i64 ((k : Nat) : Int)), (2, .string ((⟨#[48, 49, 50, 51, 52, 53, 54, 55, 56, 57]⟩ : ByteArray).extract k (k + 1))), (4, .bool false), (10, .bool true)] (fun U5 => ?_)
    refine h6 _ _ ?_
    refine wp_ret ?_
    try simp only [Exit.then]
    refine ret1 (v := .string ((⟨#[48, 49, 50, 51, 52, 53, 54, 55, 56, 57]⟩ : ByteArray).extract k (k + 1))) rfl (by kernel_rfl) ?_
    exact ⟨by rw [itoaB_small (k := k) (by omega), dig_cut (by omega)], (Below.refl _ _)⟩
  · refine W.q (v := .bool false) (hr := (r_lss (m := ((k : Nat) : Int)) (n := 10) rfl (by kernel_rfl) (by kernel_rfl) (decide_eq_false q3))) (h := ?_)
    refine W.endF 25 [(0, .int .i64 ((k : Nat) : Int)), (2, .string (⟨#[]⟩ : ByteArray)), (4, .bool false), (10, .bool false)] (fun U6 => ?_)
    refine h5 _ _ ?_
    refine wp_cond_false (by kernel_rfl) ?_
    refine wp_skip ?_
    refine h4 _ _ ?_
    refine wp_seq_k (fun K7 h7 => ?_)
    refine W.region_sch (row := none) (Sch.of [(0, false), (1, false), (3, false), (4, false), (5, false), (6, false), (7, false), (8, false), (2, true), (9, false), (10, false)]) (by kernel_rfl) (by kernel_rfl) (fun _ d _ _ _ h => by cases d <;> exact h) (by kernel_rfl) (fun w7 e8 s9 => ?_)
    refine W.mv (v := .int .i64 ((k : Nat) : Int)) (h := ?_)
    refine W.q (v := .int .i64 ((k / 10 : Nat) : Int)) (hr := (r_quoK (k := .i64) (m := ((k : Nat) : Int)) (n := 10) (z := ((k / 10 : Nat) : Int)) rfl (by kernel_rfl) (by kernel_rfl) (by omega) (by rw [show Int.tdiv ((k : Nat) : Int) 10 = ((k / 10 : Nat) : Int) from rfl]; exact wrap_i64 (by omega) (by omega)))) (h := ?_)
    refine W.mv (v := .int .i64 ((k : Nat) : Int)) (h := ?_)
    refine W.q (v := .int .i64 ((k % 10 : Nat) : Int)) (hr := (r_remK (k := .i64) (m := ((k : Nat) : Int)) (n := 10) (z := ((k % 10 : Nat) : Int)) rfl (by kernel_rfl) (by kernel_rfl) (by omega) (rfl))) (h := ?_)
    refine W.mv (v := .int .i64 ((k : Nat) : Int)) (h := ?_)
    refine W.q (v := .int .i64 ((k % 10 : Nat) : Int)) (hr := (r_remK (k := .i64) (m := ((k : Nat) : Int)) (n := 10) (z := ((k % 10 : Nat) : Int)) rfl (by kernel_rfl) (by kernel_rfl) (by omega) (rfl))) (h := ?_)
    refine W.q (v := .int .i64 ((k % 10 + 1 : Nat) : Int)) (hr := (r_add (m := ((k % 10 : Nat) : Int)) (n := 1) (z := ((k % 10 + 1 : Nat) : Int)) rfl (by kernel_rfl) (by kernel_rfl) (by omega) (by omega))) (h := ?_)
    refine W.q (v := .string ((⟨#[48, 49, 50, 51, 52, 53, 54, 55, 56, 57]⟩ : ByteArray).extract (k % 10) (k % 10 + 1))) (hr := (r_cutS (s := (⟨#[48, 49, 50, 51, 52, 53, 54, 55, 56, 57]⟩ : ByteArray)) (l := k % 10) (h := k % 10 + 1) rfl (by kernel_rfl) (by kernel_rfl) (by kernel_rfl) (by kernel_rfl) (by omega) (by (try rw [show (⟨#[48, 49, 50, 51, 52, 53, 54, 55, 56, 57]⟩ : ByteArray).size = 10 from rfl]); omega))) (h := ?_)
    refine W.sc (vs := [.int .i64 ((k / 10 : Nat) : Int)]) rfl rfl (by kernel_rfl) (by kernel_rfl) (by kernel_rfl) rfl (IH (k / 10) (by omega) _ (by omega)) ?_
    rintro e w11 ⟨rfl, b10⟩
    have s12 := SG.of_below s9 b10
    refine ⟨_, rfl, s12, ?_⟩
    refine W.q (v := .string ((itoaB ((k / 10 : Nat) : Int)) ++ ((⟨#[48, 49, 50, 51, 52, 53, 54, 55, 56, 57]⟩ : ByteArray).extract (k % 10) (k % 10 + 1)))) (hr := (r_addS (s := (itoaB ((k / 10 : Nat) : Int))) (r := ((⟨#[48, 49, 50, 51, 52, 53, 54, 55, 56, 57]⟩ : ByteArray).extract (k % 10) (k % 10 + 1))) rfl (by kernel_rfl) (by kernel_rfl) (by rw [dig_cut (by omega)]; have h9 := itoaB_le (n := ((k / 10 : Nat) : Int)) (by omega) (by omega); have h8 := size1 (UInt8.ofNat (48 + k % 10)); omega))) (h := ?_)
    refine W.as (v := .string ((itoaB ((k / 10 : Nat) : Int)) ++ ((⟨#[48, 49, 50, 51, 52, 53, 54, 55, 56, 57]⟩ : ByteArray).extract (k % 10) (k % 10 + 1)))) (h := ?_)
    refine W.endF 25 [(0, .int .i64 ((k : Nat) : Int)), (2, .string ((itoaB ((k / 10 : Nat) : Int)) ++ ((⟨#[48, 49, 50, 51, 52, 53, 54, 55, 56, 57]⟩ : ByteArray).extract (k % 10) (k % 10 + 1)))), (4, .bool false), (10, .bool false)] (fun U13 => ?_)
    have c14 := (SG.belowR (Below.refl _ _) s12 (fun kq e => by cases e))
    refine h7 _ _ ?_
    refine wp_ret ?_
    try simp only [Exit.then]
    refine ret1 (v := .string ((itoaB ((k / 10 : Nat) : Int)) ++ ((⟨#[48, 49, 50, 51, 52, 53, 54, 55, 56, 57]⟩ : ByteArray).extract (k % 10) (k % 10 + 1)))) rfl (by kernel_rfl) ?_
    exact ⟨by rw [itoaB_step (k := k) (by omega), dig_cut (by omega)], c14⟩

theorem l1Num_nat (k : Nat) : ∀ w : World, k ≤ 1000000000000000 → Calls Tryd.prog 68 #[.int .i64 ((k : Nat) : Int)] w fun e w' => e = .returned (.string (itoaB ((k : Nat) : Int))) ∧ Below w.heap.size w w' := by
  induction k using Nat.strongRecOn with
  | ind k ih => intro w h; exact l1Num_step k w h ih

set_option maxRecDepth 100000 in
set_option maxHeartbeats 1000000 in
theorem l1Num_neg (k : Nat) (w : World) (hk : k ≤ 1000000000000000) (hk1 : 1 ≤ k) :
    Calls Tryd.prog 68 #[.int .i64 (-((k : Nat) : Int))] w fun e w' => e = .returned (.string (itoaB (-((k : Nat) : Int)))) ∧ Below w.heap.size w w' := by
  go_enter Tryd.func68, Tryd.ntmps68
  refine wp_seq_k (fun K1 h1 => ?_)
  refine W.region_quiet [(0, false)] (by kernel_rfl) ?_
  refine W.as (v := .string (⟨#[]⟩ : ByteArray)) (h := ?_)
  refine W.endF 25 [(0, .int .i64 (-((k : Nat) : Int))), (2, .string (⟨#[]⟩ : ByteArray))] (fun U1 => ?_)
  refine h1 _ _ ?_
  refine wp_seq_k (fun K2 h2 => ?_)
  refine wp_seq_k (fun K3 h3 => ?_)
  refine W.region_quiet [(0, false), (1, false)] (by kernel_rfl) ?_
  refine W.mv (v := .int .i64 (-((k : Nat) : Int))) (h := ?_)
  refine W.q (v := .bool true) (hr := (r_lss (m := (-((k : Nat) : Int))) (n := 0) rfl (by kernel_rfl) (by kernel_rfl) (decide_eq_true (by omega)))) (h := ?_)
  refine W.endF 25 [(0, .int .i64 (-((k : Nat) : Int))), (2, .string (⟨#[]⟩ : ByteArray)), (4, .bool true)] (fun U2 => ?_)
  refine h3 _ _ ?_
  refine wp_cond_true (by kernel_rfl) ?_
  refine wp_seq_k (fun K4 h4 => ?_)
  refine W.region_plain (row := none) [(0, false), (1, false), (2, true), (3, false), (4, false)] (by kernel_rfl) ?_
  have s3 := SG.self w none
  refine W.mv (v := .int .i64 (-((k : Nat) : Int))) (h := ?_)
  refine W.q (v := .int .i64 ((k : Nat) : Int)) (hr := (r_neg (k := .i64) (m := (-((k : Nat) : Int))) (z := ((k : Nat) : Int)) rfl (by kernel_rfl) (by rw [Int.neg_neg]; exact wrap_i64 (by omega) (by omega)))) (h := ?_)
  refine W.sc (vs := [.int .i64 ((k : Nat) : Int)]) rfl rfl (by kernel_rfl) (by kernel_rfl) (by kernel_rfl) rfl (l1Num_nat k _ (by omega)) ?_
  rintro e w5 ⟨rfl, b4⟩
  have s6 := SG.of_below s3 b4
  refine ⟨_, rfl, s6, ?_⟩
  refine W.q (v := .string ((⟨#[45]⟩ : ByteArray) ++ (itoaB ((k : Nat) : Int)))) (hr := (r_addS (s := (⟨#[45]⟩ : ByteArray)) (r := (itoaB ((k : Nat) : Int))) rfl (by kernel_rfl) (by kernel_rfl) (by have h9 := itoaB_le (n := ((k : Nat) : Int)) (by omega) (by omega); have h8 := size1 45; omega))) (h := ?_)
  refine W.as (v := .string ((⟨#[45]⟩ : ByteArray) ++ (itoaB ((k : Nat) : Int)))) (h := ?_)
  refine W.endF 25 [(0, .int .i64 (-((k : Nat) : Int))), (2, .string ((⟨#[45]⟩ : ByteArray) ++ (itoaB ((k : Nat) : Int)))), (4, .bool true)] (fun U7 => ?_)
  have c8 := (SG.belowR (Below.refl _ _) s6 (fun kq e => by cases e))
  refine h4 _ _ ?_
  refine wp_ret ?_
  try simp only [Exit.then]
  refine ret1 (v := .string ((⟨#[45]⟩ : ByteArray) ++ (itoaB ((k : Nat) : Int)))) rfl (by kernel_rfl) ?_
  exact ⟨by rw [itoaB_neg hk1], c8⟩

theorem l1Num_any (n : Int) (h0 : -1000000000000000 ≤ n) (h1 : n ≤ 1000000000000000) (w : World) : Calls Tryd.prog 68 #[.int .i64 n] w fun e w' => e = .returned (.string (itoaB n)) ∧ Below w.heap.size w w' := by
  by_cases h : n < 0
  · obtain ⟨k, hk⟩ : ∃ k : Nat, n = -(k : Int) := ⟨n.natAbs, by omega⟩
    subst hk
    exact l1Num_neg k w (by omega) (by omega)
  · obtain ⟨k, rfl⟩ := Int.eq_ofNat_of_zero_le (show 0 ≤ n by omega)
    exact l1Num_nat k w (by omega)

set_option maxRecDepth 100000 in
set_option maxHeartbeats 1000000 in
theorem l1Read_any (s : ByteArray) (w : World) (hs : s.size ≤ 1048576) :
    Calls Tryd.prog 71 #[.string s] w fun e w' => e = .returned (.tuple #[.int .i64 (ParseInt_v0 s), .bool (ParseInt_v1 s)]) ∧ Below w.heap.size w w' := by
  go_enter Tryd.func71, Tryd.ntmps71
  refine wp_seq_k (fun K1 h1 => ?_)
  refine W.region_quiet [(0, false), (1, false)] (by kernel_rfl) ?_
  refine W.as (v := .int .i64 0) (h := ?_)
  refine W.as (v := .bool false) (h := ?_)
  refine W.endF 58 [(0, .string s), (2, .int .i64 0), (3, .bool false)] (fun U1 => ?_)
  refine h1 _ _ ?_
  refine wp_seq_k (fun K2 h2 => ?_)
  refine W.region_quiet [(0, false), (1, false)] (by kernel_rfl) ?_
  refine W.mv (v := .string s) (h := ?_)
  refine W.as (v := .string s) (h := ?_)
  refine W.endF 58 [(0, .string s), (2, .int .i64 0), (3, .bool false), (4, .string s)] (fun U2 => ?_)
  refine h2 _ _ ?_
  refine wp_seq_k (fun K3 h3 => ?_)
  refine wp_seq_k (fun K4 h4 => ?_)
  refine W.region_quiet [(0, false), (1, false), (2, false), (3, false), (4, false), (5, false), (6, false), (7, false)] (by kernel_rfl) ?_
  refine W.mv (v := .string s) (h := ?_)
  refine W.q (v := .int .i64 ((s.size : Nat) : Int)) (hr := (r_lenS (s := s) rfl (by kernel_rfl) (by kernel_rfl))) (h := ?_)
  by_cases q3 : (((s.size : Nat) : Int) : Int) > (1 : Int)
  · refine W.q (v := .bool true) (hr := (r_gtr (m := ((s.size : Nat) : Int)) (n := 1) rfl (by kernel_rfl) (by kernel_rfl) (decide_eq_true q3))) (h := ?_)
    refine W.mv (v := .bool true) (h := ?_)
    refine W.mv (v := .string s) (h := ?_)
    refine W.q (v := .int .u8 ((bAt s 0 : Nat) : Int)) (hr := (r_indexS (s := s) (k := 0) rfl (by kernel_rfl) (by kernel_rfl) (by kernel_rfl) (by omega))) (h := ?_)
    by_cases q4 : (((bAt s 0 : Nat) : Int) : Int) = (45 : Int)
    · refine W.q (v := .bool true) (hr := (r_eqlK (k := .u8) (m := ((bAt s 0 : Nat) : Int)) (n := 45) rfl (by kernel_rfl) (by kernel_rfl) (decide_eq_true q4))) (h := ?_)
      refine W.q (v := .bool true) (hr := (r_pick (b := true) rfl (by kernel_rfl) (by kernel_rfl))) (h := ?_)
      refine W.endF 58 [(0, .string s), (2, .int .i64 0), (3, .bool false), (4, .string s), (15, .bool true)] (fun U5 => ?_)
      refine h4 _ _ ?_
      refine wp_cond_true (by kernel_rfl) ?_
      refine W.region_quiet [(0, false), (1, false), (2, false)] (by kernel_rfl) ?_
      refine W.mv (v := .string s) (h := ?_)
      refine W.q (v := .string (s.extract 1 s.size)) (hr := (r_fromS (s := s) (l := 1) rfl (by kernel_rfl) (by kernel_rfl) (by kernel_rfl) (by omega))) (h := ?_)
      refine W.as (v := .string (s.extract 1 s.size)) (h := ?_)
      refine W.endF 58 [(0, .string s), (2, .int .i64 0), (3, .bool false), (4, .string (s.extract 1 s.size)), (15, .bool true)] (fun U6 => ?_)
      refine h3 _ _ ?_
      refine wp_seq_k (fun K5 h5 => ?_)
      refine wp_seq_k (fun K6 h6 => ?_)
      refine W.region_plain (row := none) [(0, false), (1, false), (2, true), (3, false)] (by kernel_rfl) ?_
      have s7 := SG.self w none
      refine W.mv (v := .string (s.extract 1 s.size)) (h := ?_)
      refine W.q (v := .int .i64 (((s.extract 1 s.size).size : Nat) : Int)) (hr := (r_lenS (s := (s.extract 1 s.size)) rfl (by kernel_rfl) (by kernel_rfl))) (h := ?_)
      refine W.sc (vs := [.int .i64 (((s.extract 1 s.size).size : Nat) : Int), .int .i64 1, .int .i64 6]) rfl rfl (by kernel_rfl) (by kernel_rfl) (by kernel_rfl) rfl (l1In_any (((s.extract 1 s.size).size : Nat) : Int) 1 6 _) ?_
      rintro e w' ⟨rfl, rfl⟩
      refine ⟨_, rfl, s7, ?_⟩
      rcases Bool.eq_false_or_eq_true (inB (((s.extract 1 s.size).size : Nat) : Int) 1 6) with q10 | q10
      · rw [q10]
        refine W.q (v := .bool false) (hr := (r_not (b := true) rfl (by kernel_rfl) rfl)) (h := ?_)
        refine W.endF 58 [(0, .string s), (2, .int .i64 0), (3, .bool false), (4, .string (s.extract 1 s.size)), (15, .bool true), (21, .bool false)] (fun U11 => ?_)
        have c12 := (SG.belowR (Below.refl _ _) s7 (fun kq e => by cases e))
        refine h6 _ _ ?_
        refine wp_cond_false (by kernel_rfl) ?_
        refine wp_skip ?_
        refine h5 _ _ ?_
        refine wp_seq_k (fun K7 h7 => ?_)
        refine W.region_quiet [(0, false)] (by kernel_rfl) ?_
        refine W.as (v := .int .i64 0) (h := ?_)
        refine W.endF 58 [(0, .string s), (2, .int .i64 0), (3, .bool false), (4, .string (s.extract 1 s.size)), (5, .int .i64 0), (15, .bool true), (21, .bool false)] (fun U13 => ?_)
        refine h7 _ _ ?_
        refine wp_seq_k (fun K8 h8 => ?_)
        refine wp_seq_k (fun K9 h9 => ?_)
        refine W.region_quiet [(0, false)] (by kernel_rfl) ?_
        refine W.as (v := .int .i64 0) (h := ?_)
        refine W.endF 58 [(0, .string s), (2, .int .i64 0), (3, .bool false), (4, .string (s.extract 1 s.size)), (5, .int .i64 0), (6, .int .i64 0), (15, .bool true), (21, .bool false)] (fun U14 => ?_)
        refine h9 _ _ ?_
        refine wp_block ?_
        have hst : stripB s = (s.extract 1 s.size) := strip_yes (by omega) (by omega)
        have hsz := ext_size (s := s) (by omega)
        have hbn := inB_yes.1 q10
        have hbl : (stripB s).size ≤ 6 := by rw [hst]; omega
        refine loopK (fun am0 aa0 wl0 => ∃ (i : Nat) (n : Nat) (U0 : Nat → Value), aa0 = ⟨(fr U0 [(0, .string s), (2, .int .i64 0), (3, .bool false), (4, .string (s.extract 1 s.size)), (5, .int .i64 ((n : Nat) : Int)), (6, .int .i64 ((i : Nat) : Int)), (15, .bool true), (21, .bool false)] 58 0).toArray, []⟩ ∧ (am0 = (s.extract 1 s.size).size - i) ∧ (i ≤ (s.extract 1 s.size).size) ∧ (Lib.decFrom 0 ((s.extract 1 s.size).data.toList.take i) = some n) ∧ (n < 1000000) ∧ (Below w.heap.size w wl0)) ((s.extract 1 s.size).size - 0) ?_ ?_
        · exact ⟨0, 0, (fun iU9 => lk [(0, .string s), (2, .int .i64 0), (3, .bool false), (4, .string (s.extract 1 s.size)), (5, .int .i64 0), (6, .int .i64 0), (15, .bool true), (21, .bool false)] iU9 (U14 iU9)), (by kernel_rfl), rfl, (Nat.zero_le _), rfl, (by omega), c12⟩
        rintro am0 aa0 wl0 K10 h10 ⟨i, n, U0, rfl, rfl, hi, hdec, hn6, c15⟩
        refine wp_seq_k (fun K11 h11 => ?_)
        refine wp_seq_k (fun K12 h12 => ?_)
        refine W.region_quiet [(0, false), (1, false), (2, false), (3, false)] (by kernel_rfl) ?_
        refine W.mv (v := .int .i64 ((i : Nat) : Int)) (h := ?_)
        refine W.mv (v := .string (s.extract 1 s.size)) (h := ?_)
        refine W.q (v := .int .i64 (((s.extract 1 s.size).size : Nat) : Int)) (hr := (r_lenS (s := (s.extract 1 s.size)) rfl (by kernel_rfl) (by kernel_rfl))) (h := ?_)
        by_cases q16 : (((i : Nat) : Int) : Int) < ((((s.extract 1 s.size).size : Nat) : Int) : Int)
        · refine W.q (v := .bool true) (hr := (r_lss (m := ((i : Nat) : Int)) (n := (((s.extract 1 s.size).size : Nat) : Int)) rfl (by kernel_rfl) (by kernel_rfl) (decide_eq_true q16))) (h := ?_)
          refine W.endF 58 [(0, .string s), (2, .int .i64 0), (3, .bool false), (4, .string (s.extract 1 s.size)), (5, .int .i64 ((n : Nat) : Int)), (6, .int .i64 ((i : Nat) : Int)), (15, .bool true), (21, .bool false), (25, .bool true)] (fun U17 => ?_)
          refine h12 _ _ ?_
          refine wp_cond_true (by kernel_rfl) ?_
          refine wp_skip ?_
          refine h11 _ _ ?_
          refine wp_seq_k (fun K13 h13 => ?_)
          refine wp_block ?_
          refine wp_seq_k (fun K14 h14 => ?_)
          refine wp_seq_k (fun K15 h15 => ?_)
          refine W.region_quiet [(0, false), (1, false), (2, false), (3, false), (4, false), (5, false), (6, false), (7, false), (8, false), (9, false)] (by kernel_rfl) ?_
          refine W.mv (v := .string (s.extract 1 s.size)) (h := ?_)
          refine W.mv (v := .int .i64 ((i : Nat) : Int)) (h := ?_)
          refine W.q (v := .int .u8 ((bAt (s.extract 1 s.size) i : Nat) : Int)) (hr := (r_indexS (s := (s.extract 1 s.size)) (k := i) rfl (by kernel_rfl) (by kernel_rfl) (by kernel_rfl) (by omega))) (h := ?_)
          by_cases q18 : (((bAt (s.extract 1 s.size) i : Nat) : Int) : Int) < (48 : Int)
          · refine W.q (v := .bool true) (hr := (r_lssK (k := .u8) (m := ((bAt (s.extract 1 s.size) i : Nat) : Int)) (n := 48) rfl (by kernel_rfl) (by kernel_rfl) (decide_eq_true q18))) (h := ?_)
            refine W.mv (v := .bool true) (h := ?_)
            refine W.sp rfl (h := ?_)
            refine W.sp rfl (h := ?_)
            refine W.sp rfl (h := ?_)
            refine W.sp rfl (h := ?_)
            refine W.q (v := .bool true) (hr := (r_pick (b := true) rfl (by kernel_rfl) (by kernel_rfl))) (h := ?_)
            refine W.endF 58 [(0, .string s), (2, .int .i64 0), (3, .bool false), (4, .string (s.extract 1 s.size)), (5, .int .i64 ((n : Nat) : Int)), (6, .int .i64 ((i : Nat) : Int)), (15, .bool true), (21, .bool false), (25, .bool true), (37, .bool true)] (fun U19 => ?_)
            refine h15 _ _ ?_
            refine wp_cond_true (by kernel_rfl) ?_
            refine wp_seq_k (fun K16 h16 => ?_)
            refine W.region_quiet [(0, false), (1, false)] (by kernel_rfl) ?_
            refine W.as (v := .int .i64 0) (h := ?_)
            refine W.as (v := .bool false) (h := ?_)
            refine W.endF 58 [(0, .string s), (2, .int .i64 0), (3, .bool false), (4, .string (s.extract 1 s.size)), (5, .int .i64 ((n : Nat) : Int)), (6, .int .i64 ((i : Nat) : Int)), (15, .bool true), (21, .bool false), (25, .bool true), (37, .bool true)] (fun U20 => ?_)
            refine h16 _ _ ?_
            refine wp_ret ?_
            try simp only [Exit.then, Exit.inBlock]
            refine ret2 (v := .int .i64 0) (x := .bool false) rfl (by kernel_rfl) (by kernel_rfl) ?_
            have hno : ¬ isNum s := fun h => by
              have h8 := num_digit (i := i) h (by rw [hst]; omega)
              rw [hst] at h8; omega
            obtain ⟨e1, e2⟩ := num_no hno
            exact ⟨by rw [e1, e2], c15⟩
          · refine W.q (v := .bool false) (hr := (r_lssK (k := .u8) (m := ((bAt (s.extract 1 s.size) i : Nat) : Int)) (n := 48) rfl (by kernel_rfl) (by kernel_rfl) (decide_eq_false q18))) (h := ?_)
            refine W.mv (v := .bool false) (h := ?_)
            refine W.mv (v := .string (s.extract 1 s.size)) (h := ?_)
            refine W.mv (v := .int .i64 ((i : Nat) : Int)) (h := ?_)
            refine W.q (v := .int .u8 ((bAt (s.extract 1 s.size) i : Nat) : Int)) (hr := (r_indexS (s := (s.extract 1 s.size)) (k := i) rfl (by kernel_rfl) (by kernel_rfl) (by kernel_rfl) (by omega))) (h := ?_)
            by_cases q21 : (((bAt (s.extract 1 s.size) i : Nat) : Int) : Int) > (57 : Int)
            · refine W.q (v := .bool true) (hr := (r_gtrK (k := .u8) (m := ((bAt (s.extract 1 s.size) i : Nat) : Int)) (n := 57) rfl (by kernel_rfl) (by kernel_rfl) (decide_eq_true q21))) (h := ?_)
              refine W.q (v := .bool true) (hr := (r_pick (b := false) rfl (by kernel_rfl) (by kernel_rfl))) (h := ?_)
              refine W.endF 58 [(0, .string s), (2, .int .i64 0), (3, .bool false), (4, .string (s.extract 1 s.size)), (5, .int .i64 ((n : Nat) : Int)), (6, .int .i64 ((i : Nat) : Int)), (15, .bool true), (21, .bool false), (25, .bool true), (37, .bool true)] (fun U22 => ?_)
              refine h15 _ _ ?_
              refine wp_cond_true (by kernel_rfl) ?_
              refine wp_seq_k (fun K17 h17 => ?_)
              refine W.region_quiet [(0, false), (1, false)] (by kernel_rfl) ?_
              refine W.as (v := .int .i64 0) (h := ?_)
              refine W.as (v := .bool false) (h := ?_)
              refine W.endF 58 [(0, .string s), (2, .int .i64 0), (3, .bool false), (4, .string (s.extract 1 s.size)), (5, .int .i64 ((n : Nat) : Int)), (6, .int .i64 ((i : Nat) : Int)), (15, .bool true), (21, .bool false), (25, .bool true), (37, .bool true)] (fun U23 => ?_)
              refine h17 _ _ ?_
              refine wp_ret ?_
              try simp only [Exit.then, Exit.inBlock]
              refine ret2 (v := .int .i64 0) (x := .bool false) rfl (by kernel_rfl) (by kernel_rfl) ?_
              have hno : ¬ isNum s := fun h => by
                have h8 := num_digit (i := i) h (by rw [hst]; omega)
                rw [hst] at h8; omega
              obtain ⟨e1, e2⟩ := num_no hno
              exact ⟨by rw [e1, e2], c15⟩
            · refine W.q (v := .bool false) (hr := (r_gtrK (k := .u8) (m := ((bAt (s.extract 1 s.size) i : Nat) : Int)) (n := 57) rfl (by kernel_rfl) (by kernel_rfl) (decide_eq_false q21))) (h := ?_)
              refine W.q (v := .bool false) (hr := (r_pick (b := false) rfl (by kernel_rfl) (by kernel_rfl))) (h := ?_)
              refine W.endF 58 [(0, .string s), (2, .int .i64 0), (3, .bool false), (4, .string (s.extract 1 s.size)), (5, .int .i64 ((n : Nat) : Int)), (6, .int .i64 ((i : Nat) : Int)), (15, .bool true), (21, .bool false), (25, .bool true), (37, .bool false)] (fun U24 => ?_)
              refine h15 _ _ ?_
              refine wp_cond_false (by kernel_rfl) ?_
              refine wp_skip ?_
              refine h14 _ _ ?_
              refine W.region_quiet [(0, false), (1, false), (2, false), (3, false), (4, false), (5, false), (6, false), (7, false), (8, false)] (by kernel_rfl) ?_
              refine W.mv (v := .int .i64 ((n : Nat) : Int)) (h := ?_)
              refine W.q (v := .int .i64 ((10 * n : Nat) : Int)) (hr := (r_mulK (k := .i64) (m := 10) (n := ((n : Nat) : Int)) (z := ((10 * n : Nat) : Int)) rfl (by kernel_rfl) (by kernel_rfl) (by rw [show (10 : Int) * ((n : Nat) : Int) = ((10 * n : Nat) : Int) by omega]; exact wrap_i64 (by omega) (by omega)))) (h := ?_)
              refine W.mv (v := .string (s.extract 1 s.size)) (h := ?_)
              refine W.mv (v := .int .i64 ((i : Nat) : Int)) (h := ?_)
              refine W.q (v := .int .u8 ((bAt (s.extract 1 s.size) i : Nat) : Int)) (hr := (r_indexS (s := (s.extract 1 s.size)) (k := i) rfl (by kernel_rfl) (by kernel_rfl) (by kernel_rfl) (by omega))) (h := ?_)
              refine W.q (v := .int .u8 (((bAt (s.extract 1 s.size) i - 48) : Nat) : Int)) (hr := (r_subK (k := .u8) (m := ((bAt (s.extract 1 s.size) i : Nat) : Int)) (n := 48) (z := (((bAt (s.extract 1 s.size) i - 48) : Nat) : Int)) rfl (by kernel_rfl) (by kernel_rfl) (by rw [show (((bAt (s.extract 1 s.size) i : Nat) : Int) - 48) = (((bAt (s.extract 1 s.size) i - 48 : Nat)) : Int) by omega]; exact IntWalk.u8_in _ (by have := bAt_lt (s.extract 1 s.size) i; omega)))) (h := ?_)
              refine W.q (v := .int .i64 (((bAt (s.extract 1 s.size) i - 48) : Nat) : Int)) (hr := (r_conv (k := .u8) (k' := .i64) (n := (((bAt (s.extract 1 s.size) i - 48) : Nat) : Int)) (m := (((bAt (s.extract 1 s.size) i - 48) : Nat) : Int)) rfl (by kernel_rfl) (by kernel_rfl) (by kernel_rfl) (wrap_i64 (by omega) (by omega)))) (h := ?_)
              refine W.q (v := .int .i64 ((10 * n + (bAt (s.extract 1 s.size) i - 48) : Nat) : Int)) (hr := (r_add (m := ((10 * n : Nat) : Int)) (n := (((bAt (s.extract 1 s.size) i - 48) : Nat) : Int)) (z := ((10 * n + (bAt (s.extract 1 s.size) i - 48) : Nat) : Int)) rfl (by kernel_rfl) (by kernel_rfl) (by omega) (by omega))) (h := ?_)
              refine W.as (v := .int .i64 ((10 * n + (bAt (s.extract 1 s.size) i - 48) : Nat) : Int)) (h := ?_)
              refine W.endF 58 [(0, .string s), (2, .int .i64 0), (3, .bool false), (4, .string (s.extract 1 s.size)), (5, .int .i64 ((10 * n + (bAt (s.extract 1 s.size) i - 48) : Nat) : Int)), (6, .int .i64 ((i : Nat) : Int)), (15, .bool true), (21, .bool false), (25, .bool true), (37, .bool false)] (fun U25 => ?_)
              refine h13 _ _ ?_
              refine W.region_quiet [(0, false), (1, false), (2, false)] (by kernel_rfl) ?_
              refine W.mv (v := .int .i64 ((i : Nat) : Int)) (h := ?_)
              refine W.q (v := .int .i64 ((i + 1 : Nat) : Int)) (hr := (r_add (m := ((i : Nat) : Int)) (n := 1) (z := ((i + 1 : Nat) : Int)) rfl (by kernel_rfl) (by kernel_rfl) (by omega) (by omega))) (h := ?_)
              refine W.as (v := .int .i64 ((i + 1 : Nat) : Int)) (h := ?_)
              refine W.endF 58 [(0, .string s), (2, .int .i64 0), (3, .bool false), (4, .string (s.extract 1 s.size)), (5, .int .i64 ((10 * n + (bAt (s.extract 1 s.size) i - 48) : Nat) : Int)), (6, .int .i64 ((i + 1 : Nat) : Int)), (15, .bool true), (21, .bool false), (25, .bool true), (37, .bool false)] (fun U26 => ?_)
              have hd2 : Lib.decFrom 0 ((s.extract 1 s.size).data.toList.take (i + 1)) = some (10 * n + (bAt (s.extract 1 s.size) i - 48)) := dec_step hdec (by omega) (by omega) (by omega)
              exact h10 _ _ _ (by omega : ((s.extract 1 s.size).size - (i + 1)) < _) ⟨i + 1, 10 * n + (bAt (s.extract 1 s.size) i - 48), (fun iU9 => lk [(0, .string s), (2, .int .i64 0), (3, .bool false), (4, .string (s.extract 1 s.size)), (5, .int .i64 ((10 * n + (bAt (s.extract 1 s.size) i - 48) : Nat) : Int)), (6, .int .i64 ((i + 1 : Nat) : Int)), (15, .bool true), (21, .bool false), (25, .bool true), (37, .bool false)] iU9 (U26 iU9)), (by kernel_rfl), rfl, (by omega), hd2, (val_lt6 (by have h9 : (s.extract 1 s.size).data.toList.length = (s.extract 1 s.size).size := (by simp); rw [List.length_take]; rw [hst] at hbl; omega) hd2), c15⟩
        · refine W.q (v := .bool false) (hr := (r_lss (m := ((i : Nat) : Int)) (n := (((s.extract 1 s.size).size : Nat) : Int)) rfl (by kernel_rfl) (by kernel_rfl) (decide_eq_false q16))) (h := ?_)
          refine W.endF 58 [(0, .string s), (2, .int .i64 0), (3, .bool false), (4, .string (s.extract 1 s.size)), (5, .int .i64 ((n : Nat) : Int)), (6, .int .i64 ((i : Nat) : Int)), (15, .bool true), (21, .bool false), (25, .bool false)] (fun U27 => ?_)
          refine h12 _ _ ?_
          refine wp_cond_false (by kernel_rfl) ?_
          refine wp_exit ?_
          refine h8 _ _ ?_
          refine wp_seq_k (fun K18 h18 => ?_)
          refine wp_seq_k (fun K19 h19 => ?_)
          refine W.region_quiet [(0, false), (1, false), (2, false), (3, false), (4, false)] (by kernel_rfl) ?_
          refine W.mv (v := .string (s.extract 1 s.size)) (h := ?_)
          refine W.q (v := .int .i64 (((s.extract 1 s.size).size : Nat) : Int)) (hr := (r_lenS (s := (s.extract 1 s.size)) rfl (by kernel_rfl) (by kernel_rfl))) (h := ?_)
          refine W.mv (v := .string s) (h := ?_)
          refine W.q (v := .int .i64 ((s.size : Nat) : Int)) (hr := (r_lenS (s := s) rfl (by kernel_rfl) (by kernel_rfl))) (h := ?_)
          refine W.q (v := .bool true) (hr := (r_lss (m := (((s.extract 1 s.size).size : Nat) : Int)) (n := ((s.size : Nat) : Int)) rfl (by kernel_rfl) (by kernel_rfl) (decide_eq_true (by omega)))) (h := ?_)
          refine W.endF 58 [(0, .string s), (2, .int .i64 0), (3, .bool false), (4, .string (s.extract 1 s.size)), (5, .int .i64 ((n : Nat) : Int)), (6, .int .i64 ((i : Nat) : Int)), (15, .bool true), (21, .bool false), (25, .bool false), (50, .bool true)] (fun U28 => ?_)
          refine h19 _ _ ?_
          refine wp_cond_true (by kernel_rfl) ?_
          refine W.region_quiet [(0, false), (1, false), (2, false)] (by kernel_rfl) ?_
          refine W.mv (v := .int .i64 ((n : Nat) : Int)) (h := ?_)
          refine W.q (v := .int .i64 (-((n : Nat) : Int))) (hr := (r_neg (k := .i64) (m := ((n : Nat) : Int)) (z := (-((n : Nat) : Int))) rfl (by kernel_rfl) (wrap_i64 (by omega) (by omega)))) (h := ?_)
          refine W.as (v := .int .i64 (-((n : Nat) : Int))) (h := ?_)
          refine W.endF 58 [(0, .string s), (2, .int .i64 0), (3, .bool false), (4, .string (s.extract 1 s.size)), (5, .int .i64 (-((n : Nat) : Int))), (6, .int .i64 ((i : Nat) : Int)), (15, .bool true), (21, .bool false), (25, .bool false), (50, .bool true)] (fun U29 => ?_)
          refine h18 _ _ ?_
          refine wp_seq_k (fun K20 h20 => ?_)
          refine wp_seq_k (fun K21 h21 => ?_)
          refine W.region_plain (row := none) [(0, false), (1, true), (2, false), (3, false)] (by kernel_rfl) ?_
          have s30 := SG.self wl0 none
          refine W.mv (v := .int .i64 (-((n : Nat) : Int))) (h := ?_)
          refine W.sc (vs := [.int .i64 (-((n : Nat) : Int))]) rfl rfl (by kernel_rfl) (by kernel_rfl) (by kernel_rfl) rfl (l1Num_any (-((n : Nat) : Int)) (by omega) (by omega) _) ?_
          rintro e w32 ⟨rfl, b31⟩
          have s33 := SG.of_below s30 b31
          refine ⟨_, rfl, s33, ?_⟩
          refine W.mv (v := .string s) (h := ?_)
          by_cases q34 : (itoaB (-((n : Nat) : Int))) = s
          · refine W.q (v := .bool false) (hr := (r_neqS (s := (itoaB (-((n : Nat) : Int)))) (r := s) rfl (by kernel_rfl) (by kernel_rfl) (by rw [decide_eq_true q34]; rfl))) (h := ?_)
            refine W.endF 58 [(0, .string s), (2, .int .i64 0), (3, .bool false), (4, .string (s.extract 1 s.size)), (5, .int .i64 (-((n : Nat) : Int))), (6, .int .i64 ((i : Nat) : Int)), (15, .bool true), (21, .bool false), (25, .bool false), (50, .bool true), (56, .bool false)] (fun U35 => ?_)
            have c36 := (SG.belowR c15 s33 (fun kq e => by cases e))
            refine h21 _ _ ?_
            refine wp_cond_false (by kernel_rfl) ?_
            refine wp_skip ?_
            refine h20 _ _ ?_
            refine wp_seq_k (fun K22 h22 => ?_)
            refine W.region_quiet [(0, false), (1, false), (2, false)] (by kernel_rfl) ?_
            refine W.mv (v := .int .i64 (-((n : Nat) : Int))) (h := ?_)
            refine W.as (v := .int .i64 (-((n : Nat) : Int))) (h := ?_)
            refine W.as (v := .bool true) (h := ?_)
            refine W.endF 58 [(0, .string s), (2, .int .i64 (-((n : Nat) : Int))), (3, .bool true), (4, .string (s.extract 1 s.size)), (5, .int .i64 (-((n : Nat) : Int))), (6, .int .i64 ((i : Nat) : Int)), (15, .bool true), (21, .bool false), (25, .bool false), (50, .bool true), (56, .bool false)] (fun U37 => ?_)
            refine h22 _ _ ?_
            refine wp_ret ?_
            try simp only [Exit.then]
            refine ret2 (v := .int .i64 (-((n : Nat) : Int))) (x := .bool true) rfl (by kernel_rfl) (by kernel_rfl) ?_
            have hN : isNum s := ⟨_, ⟨by omega, by omega⟩, q34⟩
            obtain ⟨e1, e2⟩ := num_yes ⟨by omega, by omega⟩ q34
            exact ⟨by rw [e1, e2], c36⟩
          · refine W.q (v := .bool true) (hr := (r_neqS (s := (itoaB (-((n : Nat) : Int)))) (r := s) rfl (by kernel_rfl) (by kernel_rfl) (by rw [decide_eq_false q34]; rfl))) (h := ?_)
            refine W.endF 58 [(0, .string s), (2, .int .i64 0), (3, .bool false), (4, .string (s.extract 1 s.size)), (5, .int .i64 (-((n : Nat) : Int))), (6, .int .i64 ((i : Nat) : Int)), (15, .bool true), (21, .bool false), (25, .bool false), (50, .bool true), (56, .bool true)] (fun U38 => ?_)
            have c39 := (SG.belowR c15 s33 (fun kq e => by cases e))
            refine h21 _ _ ?_
            refine wp_cond_true (by kernel_rfl) ?_
            refine wp_seq_k (fun K23 h23 => ?_)
            refine W.region_quiet [(0, false), (1, false)] (by kernel_rfl) ?_
            refine W.as (v := .int .i64 0) (h := ?_)
            refine W.as (v := .bool false) (h := ?_)
            refine W.endF 58 [(0, .string s), (2, .int .i64 0), (3, .bool false), (4, .string (s.extract 1 s.size)), (5, .int .i64 (-((n : Nat) : Int))), (6, .int .i64 ((i : Nat) : Int)), (15, .bool true), (21, .bool false), (25, .bool false), (50, .bool true), (56, .bool true)] (fun U40 => ?_)
            refine h23 _ _ ?_
            refine wp_ret ?_
            try simp only [Exit.then]
            refine ret2 (v := .int .i64 0) (x := .bool false) rfl (by kernel_rfl) (by kernel_rfl) ?_
            have hno : ¬ isNum s := fun h => by
              have h9 := num_value (n := n) h (by rw [hst]; rw [← take_all (t := (s.extract 1 s.size)) (i := i) (by omega)]; exact hdec)
              rw [hst] at h9
              exact q34 (h9.2.1 (by omega)).symm
            obtain ⟨e1, e2⟩ := num_no hno
            exact ⟨by rw [e1, e2], c39⟩
      · rw [q10]
        refine W.q (v := .bool true) (hr := (r_not (b := false) rfl (by kernel_rfl) rfl)) (h := ?_)
        refine W.endF 58 [(0, .string s), (2, .int .i64 0), (3, .bool false), (4, .string (s.extract 1 s.size)), (15, .bool true), (21, .bool true)] (fun U41 => ?_)
        have c42 := (SG.belowR (Below.refl _ _) s7 (fun kq e => by cases e))
        refine h6 _ _ ?_
        refine wp_cond_true (by kernel_rfl) ?_
        refine wp_seq_k (fun K24 h24 => ?_)
        refine W.region_quiet [(0, false), (1, false)] (by kernel_rfl) ?_
        refine W.as (v := .int .i64 0) (h := ?_)
        refine W.as (v := .bool false) (h := ?_)
        refine W.endF 58 [(0, .string s), (2, .int .i64 0), (3, .bool false), (4, .string (s.extract 1 s.size)), (15, .bool true), (21, .bool true)] (fun U43 => ?_)
        refine h24 _ _ ?_
        refine wp_ret ?_
        try simp only [Exit.then]
        refine ret2 (v := .int .i64 0) (x := .bool false) rfl (by kernel_rfl) (by kernel_rfl) ?_
        have hst : stripB s = (s.extract 1 s.size) := strip_yes (by omega) (by omega)
        have hsz := ext_size (s := s) (by omega)
        have hno : ¬ isNum s := fun h => by
          have h8 := num_strip_len h
          rw [hst] at h8
          have h7 := inB_no.1 q10
          omega
        obtain ⟨e1, e2⟩ := num_no hno
        exact ⟨by rw [e1, e2], c42⟩
    · refine W.q (v := .bool false) (hr := (r_eqlK (k := .u8) (m := ((bAt s 0 : Nat) : Int)) (n := 45) rfl (by kernel_rfl) (by kernel_rfl) (decide_eq_false q4))) (h := ?_)
      refine W.q (v := .bool false) (hr := (r_pick (b := true) rfl (by kernel_rfl) (by kernel_rfl))) (h := ?_)
      refine W.endF 58 [(0, .string s), (2, .int .i64 0), (3, .bool false), (4, .string s), (15, .bool false)] (fun U44 => ?_)
      refine h4 _ _ ?_
      refine wp_cond_false (by kernel_rfl) ?_
      refine wp_skip ?_
      refine h3 _ _ ?_
      refine wp_seq_k (fun K25 h25 => ?_)
      refine wp_seq_k (fun K26 h26 => ?_)
      refine W.region_plain (row := none) [(0, false), (1, false), (2, true), (3, false)] (by kernel_rfl) ?_
      have s45 := SG.self w none
      refine W.mv (v := .string s) (h := ?_)
      refine W.q (v := .int .i64 ((s.size : Nat) : Int)) (hr := (r_lenS (s := s) rfl (by kernel_rfl) (by kernel_rfl))) (h := ?_)
      refine W.sc (vs := [.int .i64 ((s.size : Nat) : Int), .int .i64 1, .int .i64 6]) rfl rfl (by kernel_rfl) (by kernel_rfl) (by kernel_rfl) rfl (l1In_any ((s.size : Nat) : Int) 1 6 _) ?_
      rintro e w' ⟨rfl, rfl⟩
      refine ⟨_, rfl, s45, ?_⟩
      rcases Bool.eq_false_or_eq_true (inB ((s.size : Nat) : Int) 1 6) with q48 | q48
      · rw [q48]
        refine W.q (v := .bool false) (hr := (r_not (b := true) rfl (by kernel_rfl) rfl)) (h := ?_)
        refine W.endF 58 [(0, .string s), (2, .int .i64 0), (3, .bool false), (4, .string s), (15, .bool false), (21, .bool false)] (fun U49 => ?_)
        have c50 := (SG.belowR (Below.refl _ _) s45 (fun kq e => by cases e))
        refine h26 _ _ ?_
        refine wp_cond_false (by kernel_rfl) ?_
        refine wp_skip ?_
        refine h25 _ _ ?_
        refine wp_seq_k (fun K27 h27 => ?_)
        refine W.region_quiet [(0, false)] (by kernel_rfl) ?_
        refine W.as (v := .int .i64 0) (h := ?_)
        refine W.endF 58 [(0, .string s), (2, .int .i64 0), (3, .bool false), (4, .string s), (5, .int .i64 0), (15, .bool false), (21, .bool false)] (fun U51 => ?_)
        refine h27 _ _ ?_
        refine wp_seq_k (fun K28 h28 => ?_)
        refine wp_seq_k (fun K29 h29 => ?_)
        refine W.region_quiet [(0, false)] (by kernel_rfl) ?_
        refine W.as (v := .int .i64 0) (h := ?_)
        refine W.endF 58 [(0, .string s), (2, .int .i64 0), (3, .bool false), (4, .string s), (5, .int .i64 0), (6, .int .i64 0), (15, .bool false), (21, .bool false)] (fun U52 => ?_)
        refine h29 _ _ ?_
        refine wp_block ?_
        have hst : stripB s = s := strip_no (by omega)
        have hbn := inB_yes.1 q48
        have hbl : (stripB s).size ≤ 6 := by rw [hst]; omega
        refine loopK (fun am0 aa0 wl0 => ∃ (i : Nat) (n : Nat) (U0 : Nat → Value), aa0 = ⟨(fr U0 [(0, .string s), (2, .int .i64 0), (3, .bool false), (4, .string s), (5, .int .i64 ((n : Nat) : Int)), (6, .int .i64 ((i : Nat) : Int)), (15, .bool false), (21, .bool false)] 58 0).toArray, []⟩ ∧ (am0 = s.size - i) ∧ (i ≤ s.size) ∧ (Lib.decFrom 0 (s.data.toList.take i) = some n) ∧ (n < 1000000) ∧ (Below w.heap.size w wl0)) (s.size - 0) ?_ ?_
        · exact ⟨0, 0, (fun iU9 => lk [(0, .string s), (2, .int .i64 0), (3, .bool false), (4, .string s), (5, .int .i64 0), (6, .int .i64 0), (15, .bool false), (21, .bool false)] iU9 (U52 iU9)), (by kernel_rfl), rfl, (Nat.zero_le _), rfl, (by omega), c50⟩
        rintro am0 aa0 wl0 K30 h30 ⟨i, n, U0, rfl, rfl, hi, hdec, hn6, c53⟩
        refine wp_seq_k (fun K31 h31 => ?_)
        refine wp_seq_k (fun K32 h32 => ?_)
        refine W.region_quiet [(0, false), (1, false), (2, false), (3, false)] (by kernel_rfl) ?_
        refine W.mv (v := .int .i64 ((i : Nat) : Int)) (h := ?_)
        refine W.mv (v := .string s) (h := ?_)
        refine W.q (v := .int .i64 ((s.size : Nat) : Int)) (hr := (r_lenS (s := s) rfl (by kernel_rfl) (by kernel_rfl))) (h := ?_)
        by_cases q54 : (((i : Nat) : Int) : Int) < (((s.size : Nat) : Int) : Int)
        · refine W.q (v := .bool true) (hr := (r_lss (m := ((i : Nat) : Int)) (n := ((s.size : Nat) : Int)) rfl (by kernel_rfl) (by kernel_rfl) (decide_eq_true q54))) (h := ?_)
          refine W.endF 58 [(0, .string s), (2, .int .i64 0), (3, .bool false), (4, .string s), (5, .int .i64 ((n : Nat) : Int)), (6, .int .i64 ((i : Nat) : Int)), (15, .bool false), (21, .bool false), (25, .bool true)] (fun U55 => ?_)
          refine h32 _ _ ?_
          refine wp_cond_true (by kernel_rfl) ?_
          refine wp_skip ?_
          refine h31 _ _ ?_
          refine wp_seq_k (fun K33 h33 => ?_)
          refine wp_block ?_
          refine wp_seq_k (fun K34 h34 => ?_)
          refine wp_seq_k (fun K35 h35 => ?_)
          refine W.region_quiet [(0, false), (1, false), (2, false), (3, false), (4, false), (5, false), (6, false), (7, false), (8, false), (9, false)] (by kernel_rfl) ?_
          refine W.mv (v := .string s) (h := ?_)
          refine W.mv (v := .int .i64 ((i : Nat) : Int)) (h := ?_)
          refine W.q (v := .int .u8 ((bAt s i : Nat) : Int)) (hr := (r_indexS (s := s) (k := i) rfl (by kernel_rfl) (by kernel_rfl) (by kernel_rfl) (by omega))) (h := ?_)
          by_cases q56 : (((bAt s i : Nat) : Int) : Int) < (48 : Int)
          · refine W.q (v := .bool true) (hr := (r_lssK (k := .u8) (m := ((bAt s i : Nat) : Int)) (n := 48) rfl (by kernel_rfl) (by kernel_rfl) (decide_eq_true q56))) (h := ?_)
            refine W.mv (v := .bool true) (h := ?_)
            refine W.sp rfl (h := ?_)
            refine W.sp rfl (h := ?_)
            refine W.sp rfl (h := ?_)
            refine W.sp rfl (h := ?_)
            refine W.q (v := .bool true) (hr := (r_pick (b := true) rfl (by kernel_rfl) (by kernel_rfl))) (h := ?_)
            refine W.endF 58 [(0, .string s), (2, .int .i64 0), (3, .bool false), (4, .string s), (5, .int .i64 ((n : Nat) : Int)), (6, .int .i64 ((i : Nat) : Int)), (15, .bool false), (21, .bool false), (25, .bool true), (37, .bool true)] (fun U57 => ?_)
            refine h35 _ _ ?_
            refine wp_cond_true (by kernel_rfl) ?_
            refine wp_seq_k (fun K36 h36 => ?_)
            refine W.region_quiet [(0, false), (1, false)] (by kernel_rfl) ?_
            refine W.as (v := .int .i64 0) (h := ?_)
            refine W.as (v := .bool false) (h := ?_)
            refine W.endF 58 [(0, .string s), (2, .int .i64 0), (3, .bool false), (4, .string s), (5, .int .i64 ((n : Nat) : Int)), (6, .int .i64 ((i : Nat) : Int)), (15, .bool false), (21, .bool false), (25, .bool true), (37, .bool true)] (fun U58 => ?_)
            refine h36 _ _ ?_
            refine wp_ret ?_
            try simp only [Exit.then, Exit.inBlock]
            refine ret2 (v := .int .i64 0) (x := .bool false) rfl (by kernel_rfl) (by kernel_rfl) ?_
            have hno : ¬ isNum s := fun h => by
              have h8 := num_digit (i := i) h (by rw [hst]; omega)
              rw [hst] at h8; omega
            obtain ⟨e1, e2⟩ := num_no hno
            exact ⟨by rw [e1, e2], c53⟩
          · refine W.q (v := .bool false) (hr := (r_lssK (k := .u8) (m := ((bAt s i : Nat) : Int)) (n := 48) rfl (by kernel_rfl) (by kernel_rfl) (decide_eq_false q56))) (h := ?_)
            refine W.mv (v := .bool false) (h := ?_)
            refine W.mv (v := .string s) (h := ?_)
            refine W.mv (v := .int .i64 ((i : Nat) : Int)) (h := ?_)
            refine W.q (v := .int .u8 ((bAt s i : Nat) : Int)) (hr := (r_indexS (s := s) (k := i) rfl (by kernel_rfl) (by kernel_rfl) (by kernel_rfl) (by omega))) (h := ?_)
            by_cases q59 : (((bAt s i : Nat) : Int) : Int) > (57 : Int)
            · refine W.q (v := .bool true) (hr := (r_gtrK (k := .u8) (m := ((bAt s i : Nat) : Int)) (n := 57) rfl (by kernel_rfl) (by kernel_rfl) (decide_eq_true q59))) (h := ?_)
              refine W.q (v := .bool true) (hr := (r_pick (b := false) rfl (by kernel_rfl) (by kernel_rfl))) (h := ?_)
              refine W.endF 58 [(0, .string s), (2, .int .i64 0), (3, .bool false), (4, .string s), (5, .int .i64 ((n : Nat) : Int)), (6, .int .i64 ((i : Nat) : Int)), (15, .bool false), (21, .bool false), (25, .bool true), (37, .bool true)] (fun U60 => ?_)
              refine h35 _ _ ?_
              refine wp_cond_true (by kernel_rfl) ?_
              refine wp_seq_k (fun K37 h37 => ?_)
              refine W.region_quiet [(0, false), (1, false)] (by kernel_rfl) ?_
              refine W.as (v := .int .i64 0) (h := ?_)
              refine W.as (v := .bool false) (h := ?_)
              refine W.endF 58 [(0, .string s), (2, .int .i64 0), (3, .bool false), (4, .string s), (5, .int .i64 ((n : Nat) : Int)), (6, .int .i64 ((i : Nat) : Int)), (15, .bool false), (21, .bool false), (25, .bool true), (37, .bool true)] (fun U61 => ?_)
              refine h37 _ _ ?_
              refine wp_ret ?_
              try simp only [Exit.then, Exit.inBlock]
              refine ret2 (v := .int .i64 0) (x := .bool false) rfl (by kernel_rfl) (by kernel_rfl) ?_
              have hno : ¬ isNum s := fun h => by
                have h8 := num_digit (i := i) h (by rw [hst]; omega)
                rw [hst] at h8; omega
              obtain ⟨e1, e2⟩ := num_no hno
              exact ⟨by rw [e1, e2], c53⟩
            · refine W.q (v := .bool false) (hr := (r_gtrK (k := .u8) (m := ((bAt s i : Nat) : Int)) (n := 57) rfl (by kernel_rfl) (by kernel_rfl) (decide_eq_false q59))) (h := ?_)
              refine W.q (v := .bool false) (hr := (r_pick (b := false) rfl (by kernel_rfl) (by kernel_rfl))) (h := ?_)
              refine W.endF 58 [(0, .string s), (2, .int .i64 0), (3, .bool false), (4, .string s), (5, .int .i64 ((n : Nat) : Int)), (6, .int .i64 ((i : Nat) : Int)), (15, .bool false), (21, .bool false), (25, .bool true), (37, .bool false)] (fun U62 => ?_)
              refine h35 _ _ ?_
              refine wp_cond_false (by kernel_rfl) ?_
              refine wp_skip ?_
              refine h34 _ _ ?_
              refine W.region_quiet [(0, false), (1, false), (2, false), (3, false), (4, false), (5, false), (6, false), (7, false), (8, false)] (by kernel_rfl) ?_
              refine W.mv (v := .int .i64 ((n : Nat) : Int)) (h := ?_)
              refine W.q (v := .int .i64 ((10 * n : Nat) : Int)) (hr := (r_mulK (k := .i64) (m := 10) (n := ((n : Nat) : Int)) (z := ((10 * n : Nat) : Int)) rfl (by kernel_rfl) (by kernel_rfl) (by rw [show (10 : Int) * ((n : Nat) : Int) = ((10 * n : Nat) : Int) by omega]; exact wrap_i64 (by omega) (by omega)))) (h := ?_)
              refine W.mv (v := .string s) (h := ?_)
              refine W.mv (v := .int .i64 ((i : Nat) : Int)) (h := ?_)
              refine W.q (v := .int .u8 ((bAt s i : Nat) : Int)) (hr := (r_indexS (s := s) (k := i) rfl (by kernel_rfl) (by kernel_rfl) (by kernel_rfl) (by omega))) (h := ?_)
              refine W.q (v := .int .u8 (((bAt s i - 48) : Nat) : Int)) (hr := (r_subK (k := .u8) (m := ((bAt s i : Nat) : Int)) (n := 48) (z := (((bAt s i - 48) : Nat) : Int)) rfl (by kernel_rfl) (by kernel_rfl) (by rw [show (((bAt s i : Nat) : Int) - 48) = (((bAt s i - 48 : Nat)) : Int) by omega]; exact IntWalk.u8_in _ (by have := bAt_lt s i; omega)))) (h := ?_)
              refine W.q (v := .int .i64 (((bAt s i - 48) : Nat) : Int)) (hr := (r_conv (k := .u8) (k' := .i64) (n := (((bAt s i - 48) : Nat) : Int)) (m := (((bAt s i - 48) : Nat) : Int)) rfl (by kernel_rfl) (by kernel_rfl) (by kernel_rfl) (wrap_i64 (by omega) (by omega)))) (h := ?_)
              refine W.q (v := .int .i64 ((10 * n + (bAt s i - 48) : Nat) : Int)) (hr := (r_add (m := ((10 * n : Nat) : Int)) (n := (((bAt s i - 48) : Nat) : Int)) (z := ((10 * n + (bAt s i - 48) : Nat) : Int)) rfl (by kernel_rfl) (by kernel_rfl) (by omega) (by omega))) (h := ?_)
              refine W.as (v := .int .i64 ((10 * n + (bAt s i - 48) : Nat) : Int)) (h := ?_)
              refine W.endF 58 [(0, .string s), (2, .int .i64 0), (3, .bool false), (4, .string s), (5, .int .i64 ((10 * n + (bAt s i - 48) : Nat) : Int)), (6, .int .i64 ((i : Nat) : Int)), (15, .bool false), (21, .bool false), (25, .bool true), (37, .bool false)] (fun U63 => ?_)
              refine h33 _ _ ?_
              refine W.region_quiet [(0, false), (1, false), (2, false)] (by kernel_rfl) ?_
              refine W.mv (v := .int .i64 ((i : Nat) : Int)) (h := ?_)
              refine W.q (v := .int .i64 ((i + 1 : Nat) : Int)) (hr := (r_add (m := ((i : Nat) : Int)) (n := 1) (z := ((i + 1 : Nat) : Int)) rfl (by kernel_rfl) (by kernel_rfl) (by omega) (by omega))) (h := ?_)
              refine W.as (v := .int .i64 ((i + 1 : Nat) : Int)) (h := ?_)
              refine W.endF 58 [(0, .string s), (2, .int .i64 0), (3, .bool false), (4, .string s), (5, .int .i64 ((10 * n + (bAt s i - 48) : Nat) : Int)), (6, .int .i64 ((i + 1 : Nat) : Int)), (15, .bool false), (21, .bool false), (25, .bool true), (37, .bool false)] (fun U64 => ?_)
              have hd2 : Lib.decFrom 0 (s.data.toList.take (i + 1)) = some (10 * n + (bAt s i - 48)) := dec_step hdec (by omega) (by omega) (by omega)
              exact h30 _ _ _ (by omega : (s.size - (i + 1)) < _) ⟨i + 1, 10 * n + (bAt s i - 48), (fun iU9 => lk [(0, .string s), (2, .int .i64 0), (3, .bool false), (4, .string s), (5, .int .i64 ((10 * n + (bAt s i - 48) : Nat) : Int)), (6, .int .i64 ((i + 1 : Nat) : Int)), (15, .bool false), (21, .bool false), (25, .bool true), (37, .bool false)] iU9 (U64 iU9)), (by kernel_rfl), rfl, (by omega), hd2, (val_lt6 (by have h9 : s.data.toList.length = s.size := (by simp); rw [List.length_take]; rw [hst] at hbl; omega) hd2), c53⟩
        · refine W.q (v := .bool false) (hr := (r_lss (m := ((i : Nat) : Int)) (n := ((s.size : Nat) : Int)) rfl (by kernel_rfl) (by kernel_rfl) (decide_eq_false q54))) (h := ?_)
          refine W.endF 58 [(0, .string s), (2, .int .i64 0), (3, .bool false), (4, .string s), (5, .int .i64 ((n : Nat) : Int)), (6, .int .i64 ((i : Nat) : Int)), (15, .bool false), (21, .bool false), (25, .bool false)] (fun U65 => ?_)
          refine h32 _ _ ?_
          refine wp_cond_false (by kernel_rfl) ?_
          refine wp_exit ?_
          refine h28 _ _ ?_
          refine wp_seq_k (fun K38 h38 => ?_)
          refine wp_seq_k (fun K39 h39 => ?_)
          refine W.region_quiet [(0, false), (1, false), (2, false), (3, false), (4, false)] (by kernel_rfl) ?_
          refine W.mv (v := .string s) (h := ?_)
          refine W.q (v := .int .i64 ((s.size : Nat) : Int)) (hr := (r_lenS (s := s) rfl (by kernel_rfl) (by kernel_rfl))) (h := ?_)
          refine W.mv (v := .string s) (h := ?_)
          refine W.q (v := .int .i64 ((s.size : Nat) : Int)) (hr := (r_lenS (s := s) rfl (by kernel_rfl) (by kernel_rfl))) (h := ?_)
          refine W.q (v := .bool false) (hr := (r_lss (m := ((s.size : Nat) : Int)) (n := ((s.size : Nat) : Int)) rfl (by kernel_rfl) (by kernel_rfl) (decide_eq_false (by omega)))) (h := ?_)
          refine W.endF 58 [(0, .string s), (2, .int .i64 0), (3, .bool false), (4, .string s), (5, .int .i64 ((n : Nat) : Int)), (6, .int .i64 ((i : Nat) : Int)), (15, .bool false), (21, .bool false), (25, .bool false), (50, .bool false)] (fun U66 => ?_)
          refine h39 _ _ ?_
          refine wp_cond_false (by kernel_rfl) ?_
          refine wp_skip ?_
          refine h38 _ _ ?_
          refine wp_seq_k (fun K40 h40 => ?_)
          refine wp_seq_k (fun K41 h41 => ?_)
          refine W.region_plain (row := none) [(0, false), (1, true), (2, false), (3, false)] (by kernel_rfl) ?_
          have s67 := SG.self wl0 none
          refine W.mv (v := .int .i64 ((n : Nat) : Int)) (h := ?_)
          refine W.sc (vs := [.int .i64 ((n : Nat) : Int)]) rfl rfl (by kernel_rfl) (by kernel_rfl) (by kernel_rfl) rfl (l1Num_any ((n : Nat) : Int) (by omega) (by omega) _) ?_
          rintro e w69 ⟨rfl, b68⟩
          have s70 := SG.of_below s67 b68
          refine ⟨_, rfl, s70, ?_⟩
          refine W.mv (v := .string s) (h := ?_)
          by_cases q71 : (itoaB ((n : Nat) : Int)) = s
          · refine W.q (v := .bool false) (hr := (r_neqS (s := (itoaB ((n : Nat) : Int))) (r := s) rfl (by kernel_rfl) (by kernel_rfl) (by rw [decide_eq_true q71]; rfl))) (h := ?_)
            refine W.endF 58 [(0, .string s), (2, .int .i64 0), (3, .bool false), (4, .string s), (5, .int .i64 ((n : Nat) : Int)), (6, .int .i64 ((i : Nat) : Int)), (15, .bool false), (21, .bool false), (25, .bool false), (50, .bool false), (56, .bool false)] (fun U72 => ?_)
            have c73 := (SG.belowR c53 s70 (fun kq e => by cases e))
            refine h41 _ _ ?_
            refine wp_cond_false (by kernel_rfl) ?_
            refine wp_skip ?_
            refine h40 _ _ ?_
            refine wp_seq_k (fun K42 h42 => ?_)
            refine W.region_quiet [(0, false), (1, false), (2, false)] (by kernel_rfl) ?_
            refine W.mv (v := .int .i64 ((n : Nat) : Int)) (h := ?_)
            refine W.as (v := .int .i64 ((n : Nat) : Int)) (h := ?_)
            refine W.as (v := .bool true) (h := ?_)
            refine W.endF 58 [(0, .string s), (2, .int .i64 ((n : Nat) : Int)), (3, .bool true), (4, .string s), (5, .int .i64 ((n : Nat) : Int)), (6, .int .i64 ((i : Nat) : Int)), (15, .bool false), (21, .bool false), (25, .bool false), (50, .bool false), (56, .bool false)] (fun U74 => ?_)
            refine h42 _ _ ?_
            refine wp_ret ?_
            try simp only [Exit.then]
            refine ret2 (v := .int .i64 ((n : Nat) : Int)) (x := .bool true) rfl (by kernel_rfl) (by kernel_rfl) ?_
            have hN : isNum s := ⟨_, ⟨by omega, by omega⟩, q71⟩
            obtain ⟨e1, e2⟩ := num_yes ⟨by omega, by omega⟩ q71
            exact ⟨by rw [e1, e2], c73⟩
          · refine W.q (v := .bool true) (hr := (r_neqS (s := (itoaB ((n : Nat) : Int))) (r := s) rfl (by kernel_rfl) (by kernel_rfl) (by rw [decide_eq_false q71]; rfl))) (h := ?_)
            refine W.endF 58 [(0, .string s), (2, .int .i64 0), (3, .bool false), (4, .string s), (5, .int .i64 ((n : Nat) : Int)), (6, .int .i64 ((i : Nat) : Int)), (15, .bool false), (21, .bool false), (25, .bool false), (50, .bool false), (56, .bool true)] (fun U75 => ?_)
            have c76 := (SG.belowR c53 s70 (fun kq e => by cases e))
            refine h41 _ _ ?_
            refine wp_cond_true (by kernel_rfl) ?_
            refine wp_seq_k (fun K43 h43 => ?_)
            refine W.region_quiet [(0, false), (1, false)] (by kernel_rfl) ?_
            refine W.as (v := .int .i64 0) (h := ?_)
            refine W.as (v := .bool false) (h := ?_)
            refine W.endF 58 [(0, .string s), (2, .int .i64 0), (3, .bool false), (4, .string s), (5, .int .i64 ((n : Nat) : Int)), (6, .int .i64 ((i : Nat) : Int)), (15, .bool false), (21, .bool false), (25, .bool false), (50, .bool false), (56, .bool true)] (fun U77 => ?_)
            refine h43 _ _ ?_
            refine wp_ret ?_
            try simp only [Exit.then]
            refine ret2 (v := .int .i64 0) (x := .bool false) rfl (by kernel_rfl) (by kernel_rfl) ?_
            have hno : ¬ isNum s := fun h => by
              have h9 := num_value (n := n) h (by rw [hst]; rw [← take_all (t := s) (i := i) (by omega)]; exact hdec)
              rw [hst] at h9
              exact q71 (h9.2.2 (by omega)).symm
            obtain ⟨e1, e2⟩ := num_no hno
            exact ⟨by rw [e1, e2], c76⟩
      · rw [q48]
        refine W.q (v := .bool true) (hr := (r_not (b := false) rfl (by kernel_rfl) rfl)) (h := ?_)
        refine W.endF 58 [(0, .string s), (2, .int .i64 0), (3, .bool false), (4, .string s), (15, .bool false), (21, .bool true)] (fun U78 => ?_)
        have c79 := (SG.belowR (Below.refl _ _) s45 (fun kq e => by cases e))
        refine h26 _ _ ?_
        refine wp_cond_true (by kernel_rfl) ?_
        refine wp_seq_k (fun K44 h44 => ?_)
        refine W.region_quiet [(0, false), (1, false)] (by kernel_rfl) ?_
        refine W.as (v := .int .i64 0) (h := ?_)
        refine W.as (v := .bool false) (h := ?_)
        refine W.endF 58 [(0, .string s), (2, .int .i64 0), (3, .bool false), (4, .string s), (15, .bool false), (21, .bool true)] (fun U80 => ?_)
        refine h44 _ _ ?_
        refine wp_ret ?_
        try simp only [Exit.then]
        refine ret2 (v := .int .i64 0) (x := .bool false) rfl (by kernel_rfl) (by kernel_rfl) ?_
        have hst : stripB s = s := strip_no (by omega)
        have hno : ¬ isNum s := fun h => by
          have h8 := num_strip_len h
          rw [hst] at h8
          have h7 := inB_no.1 q48
          omega
        obtain ⟨e1, e2⟩ := num_no hno
        exact ⟨by rw [e1, e2], c79⟩
  · refine W.q (v := .bool false) (hr := (r_gtr (m := ((s.size : Nat) : Int)) (n := 1) rfl (by kernel_rfl) (by kernel_rfl) (decide_eq_false q3))) (h := ?_)
    refine W.mv (v := .bool false) (h := ?_)
    refine W.sp rfl (h := ?_)
    refine W.sp rfl (h := ?_)
    refine W.sp rfl (h := ?_)
    refine W.q (v := .bool false) (hr := (r_pick (b := false) rfl (by kernel_rfl) (by kernel_rfl))) (h := ?_)
    refine W.endF 58 [(0, .string s), (2, .int .i64 0), (3, .bool false), (4, .string s), (15, .bool false)] (fun U81 => ?_)
    refine h4 _ _ ?_
    refine wp_cond_false (by kernel_rfl) ?_
    refine wp_skip ?_
    refine h3 _ _ ?_
    refine wp_seq_k (fun K45 h45 => ?_)
    refine wp_seq_k (fun K46 h46 => ?_)
    refine W.region_plain (row := none) [(0, false), (1, false), (2, true), (3, false)] (by kernel_rfl) ?_
    have s82 := SG.self w none
    refine W.mv (v := .string s) (h := ?_)
    refine W.q (v := .int .i64 ((s.size : Nat) : Int)) (hr := (r_lenS (s := s) rfl (by kernel_rfl) (by kernel_rfl))) (h := ?_)
    refine W.sc (vs := [.int .i64 ((s.size : Nat) : Int), .int .i64 1, .int .i64 6]) rfl rfl (by kernel_rfl) (by kernel_rfl) (by kernel_rfl) rfl (l1In_any ((s.size : Nat) : Int) 1 6 _) ?_
    rintro e w' ⟨rfl, rfl⟩
    refine ⟨_, rfl, s82, ?_⟩
    rcases Bool.eq_false_or_eq_true (inB ((s.size : Nat) : Int) 1 6) with q85 | q85
    · rw [q85]
      refine W.q (v := .bool false) (hr := (r_not (b := true) rfl (by kernel_rfl) rfl)) (h := ?_)
      refine W.endF 58 [(0, .string s), (2, .int .i64 0), (3, .bool false), (4, .string s), (15, .bool false), (21, .bool false)] (fun U86 => ?_)
      have c87 := (SG.belowR (Below.refl _ _) s82 (fun kq e => by cases e))
      refine h46 _ _ ?_
      refine wp_cond_false (by kernel_rfl) ?_
      refine wp_skip ?_
      refine h45 _ _ ?_
      refine wp_seq_k (fun K47 h47 => ?_)
      refine W.region_quiet [(0, false)] (by kernel_rfl) ?_
      refine W.as (v := .int .i64 0) (h := ?_)
      refine W.endF 58 [(0, .string s), (2, .int .i64 0), (3, .bool false), (4, .string s), (5, .int .i64 0), (15, .bool false), (21, .bool false)] (fun U88 => ?_)
      refine h47 _ _ ?_
      refine wp_seq_k (fun K48 h48 => ?_)
      refine wp_seq_k (fun K49 h49 => ?_)
      refine W.region_quiet [(0, false)] (by kernel_rfl) ?_
      refine W.as (v := .int .i64 0) (h := ?_)
      refine W.endF 58 [(0, .string s), (2, .int .i64 0), (3, .bool false), (4, .string s), (5, .int .i64 0), (6, .int .i64 0), (15, .bool false), (21, .bool false)] (fun U89 => ?_)
      refine h49 _ _ ?_
      refine wp_block ?_
      have hst : stripB s = s := strip_no (by omega)
      have hbn := inB_yes.1 q85
      have hbl : (stripB s).size ≤ 6 := by rw [hst]; omega
      refine loopK (fun am0 aa0 wl0 => ∃ (i : Nat) (n : Nat) (U0 : Nat → Value), aa0 = ⟨(fr U0 [(0, .string s), (2, .int .i64 0), (3, .bool false), (4, .string s), (5, .int .i64 ((n : Nat) : Int)), (6, .int .i64 ((i : Nat) : Int)), (15, .bool false), (21, .bool false)] 58 0).toArray, []⟩ ∧ (am0 = s.size - i) ∧ (i ≤ s.size) ∧ (Lib.decFrom 0 (s.data.toList.take i) = some n) ∧ (n < 1000000) ∧ (Below w.heap.size w wl0)) (s.size - 0) ?_ ?_
      · exact ⟨0, 0, (fun iU9 => lk [(0, .string s), (2, .int .i64 0), (3, .bool false), (4, .string s), (5, .int .i64 0), (6, .int .i64 0), (15, .bool false), (21, .bool false)] iU9 (U89 iU9)), (by kernel_rfl), rfl, (Nat.zero_le _), rfl, (by omega), c87⟩
      rintro am0 aa0 wl0 K50 h50 ⟨i, n, U0, rfl, rfl, hi, hdec, hn6, c90⟩
      refine wp_seq_k (fun K51 h51 => ?_)
      refine wp_seq_k (fun K52 h52 => ?_)
      refine W.region_quiet [(0, false), (1, false), (2, false), (3, false)] (by kernel_rfl) ?_
      refine W.mv (v := .int .i64 ((i : Nat) : Int)) (h := ?_)
      refine W.mv (v := .string s) (h := ?_)
      refine W.q (v := .int .i64 ((s.size : Nat) : Int)) (hr := (r_lenS (s := s) rfl (by kernel_rfl) (by kernel_rfl))) (h := ?_)
      by_cases q91 : (((i : Nat) : Int) : Int) < (((s.size : Nat) : Int) : Int)
      · refine W.q (v := .bool true) (hr := (r_lss (m := ((i : Nat) : Int)) (n := ((s.size : Nat) : Int)) rfl (by kernel_rfl) (by kernel_rfl) (decide_eq_true q91))) (h := ?_)
        refine W.endF 58 [(0, .string s), (2, .int .i64 0), (3, .bool false), (4, .string s), (5, .int .i64 ((n : Nat) : Int)), (6, .int .i64 ((i : Nat) : Int)), (15, .bool false), (21, .bool false), (25, .bool true)] (fun U92 => ?_)
        refine h52 _ _ ?_
        refine wp_cond_true (by kernel_rfl) ?_
        refine wp_skip ?_
        refine h51 _ _ ?_
        refine wp_seq_k (fun K53 h53 => ?_)
        refine wp_block ?_
        refine wp_seq_k (fun K54 h54 => ?_)
        refine wp_seq_k (fun K55 h55 => ?_)
        refine W.region_quiet [(0, false), (1, false), (2, false), (3, false), (4, false), (5, false), (6, false), (7, false), (8, false), (9, false)] (by kernel_rfl) ?_
        refine W.mv (v := .string s) (h := ?_)
        refine W.mv (v := .int .i64 ((i : Nat) : Int)) (h := ?_)
        refine W.q (v := .int .u8 ((bAt s i : Nat) : Int)) (hr := (r_indexS (s := s) (k := i) rfl (by kernel_rfl) (by kernel_rfl) (by kernel_rfl) (by omega))) (h := ?_)
        by_cases q93 : (((bAt s i : Nat) : Int) : Int) < (48 : Int)
        · refine W.q (v := .bool true) (hr := (r_lssK (k := .u8) (m := ((bAt s i : Nat) : Int)) (n := 48) rfl (by kernel_rfl) (by kernel_rfl) (decide_eq_true q93))) (h := ?_)
          refine W.mv (v := .bool true) (h := ?_)
          refine W.sp rfl (h := ?_)
          refine W.sp rfl (h := ?_)
          refine W.sp rfl (h := ?_)
          refine W.sp rfl (h := ?_)
          refine W.q (v := .bool true) (hr := (r_pick (b := true) rfl (by kernel_rfl) (by kernel_rfl))) (h := ?_)
          refine W.endF 58 [(0, .string s), (2, .int .i64 0), (3, .bool false), (4, .string s), (5, .int .i64 ((n : Nat) : Int)), (6, .int .i64 ((i : Nat) : Int)), (15, .bool false), (21, .bool false), (25, .bool true), (37, .bool true)] (fun U94 => ?_)
          refine h55 _ _ ?_
          refine wp_cond_true (by kernel_rfl) ?_
          refine wp_seq_k (fun K56 h56 => ?_)
          refine W.region_quiet [(0, false), (1, false)] (by kernel_rfl) ?_
          refine W.as (v := .int .i64 0) (h := ?_)
          refine W.as (v := .bool false) (h := ?_)
          refine W.endF 58 [(0, .string s), (2, .int .i64 0), (3, .bool false), (4, .string s), (5, .int .i64 ((n : Nat) : Int)), (6, .int .i64 ((i : Nat) : Int)), (15, .bool false), (21, .bool false), (25, .bool true), (37, .bool true)] (fun U95 => ?_)
          refine h56 _ _ ?_
          refine wp_ret ?_
          try simp only [Exit.then, Exit.inBlock]
          refine ret2 (v := .int .i64 0) (x := .bool false) rfl (by kernel_rfl) (by kernel_rfl) ?_
          have hno : ¬ isNum s := fun h => by
            have h8 := num_digit (i := i) h (by rw [hst]; omega)
            rw [hst] at h8; omega
          obtain ⟨e1, e2⟩ := num_no hno
          exact ⟨by rw [e1, e2], c90⟩
        · refine W.q (v := .bool false) (hr := (r_lssK (k := .u8) (m := ((bAt s i : Nat) : Int)) (n := 48) rfl (by kernel_rfl) (by kernel_rfl) (decide_eq_false q93))) (h := ?_)
          refine W.mv (v := .bool false) (h := ?_)
          refine W.mv (v := .string s) (h := ?_)
          refine W.mv (v := .int .i64 ((i : Nat) : Int)) (h := ?_)
          refine W.q (v := .int .u8 ((bAt s i : Nat) : Int)) (hr := (r_indexS (s := s) (k := i) rfl (by kernel_rfl) (by kernel_rfl) (by kernel_rfl) (by omega))) (h := ?_)
          by_cases q96 : (((bAt s i : Nat) : Int) : Int) > (57 : Int)
          · refine W.q (v := .bool true) (hr := (r_gtrK (k := .u8) (m := ((bAt s i : Nat) : Int)) (n := 57) rfl (by kernel_rfl) (by kernel_rfl) (decide_eq_true q96))) (h := ?_)
            refine W.q (v := .bool true) (hr := (r_pick (b := false) rfl (by kernel_rfl) (by kernel_rfl))) (h := ?_)
            refine W.endF 58 [(0, .string s), (2, .int .i64 0), (3, .bool false), (4, .string s), (5, .int .i64 ((n : Nat) : Int)), (6, .int .i64 ((i : Nat) : Int)), (15, .bool false), (21, .bool false), (25, .bool true), (37, .bool true)] (fun U97 => ?_)
            refine h55 _ _ ?_
            refine wp_cond_true (by kernel_rfl) ?_
            refine wp_seq_k (fun K57 h57 => ?_)
            refine W.region_quiet [(0, false), (1, false)] (by kernel_rfl) ?_
            refine W.as (v := .int .i64 0) (h := ?_)
            refine W.as (v := .bool false) (h := ?_)
            refine W.endF 58 [(0, .string s), (2, .int .i64 0), (3, .bool false), (4, .string s), (5, .int .i64 ((n : Nat) : Int)), (6, .int .i64 ((i : Nat) : Int)), (15, .bool false), (21, .bool false), (25, .bool true), (37, .bool true)] (fun U98 => ?_)
            refine h57 _ _ ?_
            refine wp_ret ?_
            try simp only [Exit.then, Exit.inBlock]
            refine ret2 (v := .int .i64 0) (x := .bool false) rfl (by kernel_rfl) (by kernel_rfl) ?_
            have hno : ¬ isNum s := fun h => by
              have h8 := num_digit (i := i) h (by rw [hst]; omega)
              rw [hst] at h8; omega
            obtain ⟨e1, e2⟩ := num_no hno
            exact ⟨by rw [e1, e2], c90⟩
          · refine W.q (v := .bool false) (hr := (r_gtrK (k := .u8) (m := ((bAt s i : Nat) : Int)) (n := 57) rfl (by kernel_rfl) (by kernel_rfl) (decide_eq_false q96))) (h := ?_)
            refine W.q (v := .bool false) (hr := (r_pick (b := false) rfl (by kernel_rfl) (by kernel_rfl))) (h := ?_)
            refine W.endF 58 [(0, .string s), (2, .int .i64 0), (3, .bool false), (4, .string s), (5, .int .i64 ((n : Nat) : Int)), (6, .int .i64 ((i : Nat) : Int)), (15, .bool false), (21, .bool false), (25, .bool true), (37, .bool false)] (fun U99 => ?_)
            refine h55 _ _ ?_
            refine wp_cond_false (by kernel_rfl) ?_
            refine wp_skip ?_
            refine h54 _ _ ?_
            refine W.region_quiet [(0, false), (1, false), (2, false), (3, false), (4, false), (5, false), (6, false), (7, false), (8, false)] (by kernel_rfl) ?_
            refine W.mv (v := .int .i64 ((n : Nat) : Int)) (h := ?_)
            refine W.q (v := .int .i64 ((10 * n : Nat) : Int)) (hr := (r_mulK (k := .i64) (m := 10) (n := ((n : Nat) : Int)) (z := ((10 * n : Nat) : Int)) rfl (by kernel_rfl) (by kernel_rfl) (by rw [show (10 : Int) * ((n : Nat) : Int) = ((10 * n : Nat) : Int) by omega]; exact wrap_i64 (by omega) (by omega)))) (h := ?_)
            refine W.mv (v := .string s) (h := ?_)
            refine W.mv (v := .int .i64 ((i : Nat) : Int)) (h := ?_)
            refine W.q (v := .int .u8 ((bAt s i : Nat) : Int)) (hr := (r_indexS (s := s) (k := i) rfl (by kernel_rfl) (by kernel_rfl) (by kernel_rfl) (by omega))) (h := ?_)
            refine W.q (v := .int .u8 (((bAt s i - 48) : Nat) : Int)) (hr := (r_subK (k := .u8) (m := ((bAt s i : Nat) : Int)) (n := 48) (z := (((bAt s i - 48) : Nat) : Int)) rfl (by kernel_rfl) (by kernel_rfl) (by rw [show (((bAt s i : Nat) : Int) - 48) = (((bAt s i - 48 : Nat)) : Int) by omega]; exact IntWalk.u8_in _ (by have := bAt_lt s i; omega)))) (h := ?_)
            refine W.q (v := .int .i64 (((bAt s i - 48) : Nat) : Int)) (hr := (r_conv (k := .u8) (k' := .i64) (n := (((bAt s i - 48) : Nat) : Int)) (m := (((bAt s i - 48) : Nat) : Int)) rfl (by kernel_rfl) (by kernel_rfl) (by kernel_rfl) (wrap_i64 (by omega) (by omega)))) (h := ?_)
            refine W.q (v := .int .i64 ((10 * n + (bAt s i - 48) : Nat) : Int)) (hr := (r_add (m := ((10 * n : Nat) : Int)) (n := (((bAt s i - 48) : Nat) : Int)) (z := ((10 * n + (bAt s i - 48) : Nat) : Int)) rfl (by kernel_rfl) (by kernel_rfl) (by omega) (by omega))) (h := ?_)
            refine W.as (v := .int .i64 ((10 * n + (bAt s i - 48) : Nat) : Int)) (h := ?_)
            refine W.endF 58 [(0, .string s), (2, .int .i64 0), (3, .bool false), (4, .string s), (5, .int .i64 ((10 * n + (bAt s i - 48) : Nat) : Int)), (6, .int .i64 ((i : Nat) : Int)), (15, .bool false), (21, .bool false), (25, .bool true), (37, .bool false)] (fun U100 => ?_)
            refine h53 _ _ ?_
            refine W.region_quiet [(0, false), (1, false), (2, false)] (by kernel_rfl) ?_
            refine W.mv (v := .int .i64 ((i : Nat) : Int)) (h := ?_)
            refine W.q (v := .int .i64 ((i + 1 : Nat) : Int)) (hr := (r_add (m := ((i : Nat) : Int)) (n := 1) (z := ((i + 1 : Nat) : Int)) rfl (by kernel_rfl) (by kernel_rfl) (by omega) (by omega))) (h := ?_)
            refine W.as (v := .int .i64 ((i + 1 : Nat) : Int)) (h := ?_)
            refine W.endF 58 [(0, .string s), (2, .int .i64 0), (3, .bool false), (4, .string s), (5, .int .i64 ((10 * n + (bAt s i - 48) : Nat) : Int)), (6, .int .i64 ((i + 1 : Nat) : Int)), (15, .bool false), (21, .bool false), (25, .bool true), (37, .bool false)] (fun U101 => ?_)
            have hd2 : Lib.decFrom 0 (s.data.toList.take (i + 1)) = some (10 * n + (bAt s i - 48)) := dec_step hdec (by omega) (by omega) (by omega)
            exact h50 _ _ _ (by omega : (s.size - (i + 1)) < _) ⟨i + 1, 10 * n + (bAt s i - 48), (fun iU9 => lk [(0, .string s), (2, .int .i64 0), (3, .bool false), (4, .string s), (5, .int .i64 ((10 * n + (bAt s i - 48) : Nat) : Int)), (6, .int .i64 ((i + 1 : Nat) : Int)), (15, .bool false), (21, .bool false), (25, .bool true), (37, .bool false)] iU9 (U101 iU9)), (by kernel_rfl), rfl, (by omega), hd2, (val_lt6 (by have h9 : s.data.toList.length = s.size := (by simp); rw [List.length_take]; rw [hst] at hbl; omega) hd2), c90⟩
      · refine W.q (v := .bool false) (hr := (r_lss (m := ((i : Nat) : Int)) (n := ((s.size : Nat) : Int)) rfl (by kernel_rfl) (by kernel_rfl) (decide_eq_false q91))) (h := ?_)
        refine W.endF 58 [(0, .string s), (2, .int .i64 0), (3, .bool false), (4, .string s), (5, .int .i64 ((n : Nat) : Int)), (6, .int .i64 ((i : Nat) : Int)), (15, .bool false), (21, .bool false), (25, .bool false)] (fun U102 => ?_)
        refine h52 _ _ ?_
        refine wp_cond_false (by kernel_rfl) ?_
        refine wp_exit ?_
        refine h48 _ _ ?_
        refine wp_seq_k (fun K58 h58 => ?_)
        refine wp_seq_k (fun K59 h59 => ?_)
        refine W.region_quiet [(0, false), (1, false), (2, false), (3, false), (4, false)] (by kernel_rfl) ?_
        refine W.mv (v := .string s) (h := ?_)
        refine W.q (v := .int .i64 ((s.size : Nat) : Int)) (hr := (r_lenS (s := s) rfl (by kernel_rfl) (by kernel_rfl))) (h := ?_)
        refine W.mv (v := .string s) (h := ?_)
        refine W.q (v := .int .i64 ((s.size : Nat) : Int)) (hr := (r_lenS (s := s) rfl (by kernel_rfl) (by kernel_rfl))) (h := ?_)
        refine W.q (v := .bool false) (hr := (r_lss (m := ((s.size : Nat) : Int)) (n := ((s.size : Nat) : Int)) rfl (by kernel_rfl) (by kernel_rfl) (decide_eq_false (by omega)))) (h := ?_)
        refine W.endF 58 [(0, .string s), (2, .int .i64 0), (3, .bool false), (4, .string s), (5, .int .i64 ((n : Nat) : Int)), (6, .int .i64 ((i : Nat) : Int)), (15, .bool false), (21, .bool false), (25, .bool false), (50, .bool false)] (fun U103 => ?_)
        refine h59 _ _ ?_
        refine wp_cond_false (by kernel_rfl) ?_
        refine wp_skip ?_
        refine h58 _ _ ?_
        refine wp_seq_k (fun K60 h60 => ?_)
        refine wp_seq_k (fun K61 h61 => ?_)
        refine W.region_plain (row := none) [(0, false), (1, true), (2, false), (3, false)] (by kernel_rfl) ?_
        have s104 := SG.self wl0 none
        refine W.mv (v := .int .i64 ((n : Nat) : Int)) (h := ?_)
        refine W.sc (vs := [.int .i64 ((n : Nat) : Int)]) rfl rfl (by kernel_rfl) (by kernel_rfl) (by kernel_rfl) rfl (l1Num_any ((n : Nat) : Int) (by omega) (by omega) _) ?_
        rintro e w106 ⟨rfl, b105⟩
        have s107 := SG.of_below s104 b105
        refine ⟨_, rfl, s107, ?_⟩
        refine W.mv (v := .string s) (h := ?_)
        by_cases q108 : (itoaB ((n : Nat) : Int)) = s
        · refine W.q (v := .bool false) (hr := (r_neqS (s := (itoaB ((n : Nat) : Int))) (r := s) rfl (by kernel_rfl) (by kernel_rfl) (by rw [decide_eq_true q108]; rfl))) (h := ?_)
          refine W.endF 58 [(0, .string s), (2, .int .i64 0), (3, .bool false), (4, .string s), (5, .int .i64 ((n : Nat) : Int)), (6, .int .i64 ((i : Nat) : Int)), (15, .bool false), (21, .bool false), (25, .bool false), (50, .bool false), (56, .bool false)] (fun U109 => ?_)
          have c110 := (SG.belowR c90 s107 (fun kq e => by cases e))
          refine h61 _ _ ?_
          refine wp_cond_false (by kernel_rfl) ?_
          refine wp_skip ?_
          refine h60 _ _ ?_
          refine wp_seq_k (fun K62 h62 => ?_)
          refine W.region_quiet [(0, false), (1, false), (2, false)] (by kernel_rfl) ?_
          refine W.mv (v := .int .i64 ((n : Nat) : Int)) (h := ?_)
          refine W.as (v := .int .i64 ((n : Nat) : Int)) (h := ?_)
          refine W.as (v := .bool true) (h := ?_)
          refine W.endF 58 [(0, .string s), (2, .int .i64 ((n : Nat) : Int)), (3, .bool true), (4, .string s), (5, .int .i64 ((n : Nat) : Int)), (6, .int .i64 ((i : Nat) : Int)), (15, .bool false), (21, .bool false), (25, .bool false), (50, .bool false), (56, .bool false)] (fun U111 => ?_)
          refine h62 _ _ ?_
          refine wp_ret ?_
          try simp only [Exit.then]
          refine ret2 (v := .int .i64 ((n : Nat) : Int)) (x := .bool true) rfl (by kernel_rfl) (by kernel_rfl) ?_
          have hN : isNum s := ⟨_, ⟨by omega, by omega⟩, q108⟩
          obtain ⟨e1, e2⟩ := num_yes ⟨by omega, by omega⟩ q108
          exact ⟨by rw [e1, e2], c110⟩
        · refine W.q (v := .bool true) (hr := (r_neqS (s := (itoaB ((n : Nat) : Int))) (r := s) rfl (by kernel_rfl) (by kernel_rfl) (by rw [decide_eq_false q108]; rfl))) (h := ?_)
          refine W.endF 58 [(0, .string s), (2, .int .i64 0), (3, .bool false), (4, .string s), (5, .int .i64 ((n : Nat) : Int)), (6, .int .i64 ((i : Nat) : Int)), (15, .bool false), (21, .bool false), (25, .bool false), (50, .bool false), (56, .bool true)] (fun U112 => ?_)
          have c113 := (SG.belowR c90 s107 (fun kq e => by cases e))
          refine h61 _ _ ?_
          refine wp_cond_true (by kernel_rfl) ?_
          refine wp_seq_k (fun K63 h63 => ?_)
          refine W.region_quiet [(0, false), (1, false)] (by kernel_rfl) ?_
          refine W.as (v := .int .i64 0) (h := ?_)
          refine W.as (v := .bool false) (h := ?_)
          refine W.endF 58 [(0, .string s), (2, .int .i64 0), (3, .bool false), (4, .string s), (5, .int .i64 ((n : Nat) : Int)), (6, .int .i64 ((i : Nat) : Int)), (15, .bool false), (21, .bool false), (25, .bool false), (50, .bool false), (56, .bool true)] (fun U114 => ?_)
          refine h63 _ _ ?_
          refine wp_ret ?_
          try simp only [Exit.then]
          refine ret2 (v := .int .i64 0) (x := .bool false) rfl (by kernel_rfl) (by kernel_rfl) ?_
          have hno : ¬ isNum s := fun h => by
            have h9 := num_value (n := n) h (by rw [hst]; rw [← take_all (t := s) (i := i) (by omega)]; exact hdec)
            rw [hst] at h9
            exact q108 (h9.2.2 (by omega)).symm
          obtain ⟨e1, e2⟩ := num_no hno
          exact ⟨by rw [e1, e2], c113⟩
    · rw [q85]
      refine W.q (v := .bool true) (hr := (r_not (b := false) rfl (by kernel_rfl) rfl)) (h := ?_)
      refine W.endF 58 [(0, .string s), (2, .int .i64 0), (3, .bool false), (4, .string s), (15, .bool false), (21, .bool true)] (fun U115 => ?_)
      have c116 := (SG.belowR (Below.refl _ _) s82 (fun kq e => by cases e))
      refine h46 _ _ ?_
      refine wp_cond_true (by kernel_rfl) ?_
      refine wp_seq_k (fun K64 h64 => ?_)
      refine W.region_quiet [(0, false), (1, false)] (by kernel_rfl) ?_
      refine W.as (v := .int .i64 0) (h := ?_)
      refine W.as (v := .bool false) (h := ?_)
      refine W.endF 58 [(0, .string s), (2, .int .i64 0), (3, .bool false), (4, .string s), (15, .bool false), (21, .bool true)] (fun U117 => ?_)
      refine h64 _ _ ?_
      refine wp_ret ?_
      try simp only [Exit.then]
      refine ret2 (v := .int .i64 0) (x := .bool false) rfl (by kernel_rfl) (by kernel_rfl) ?_
      have hst : stripB s = s := strip_no (by omega)
      have hno : ¬ isNum s := fun h => by
        have h8 := num_strip_len h
        rw [hst] at h8
        have h7 := inB_no.1 q85
        omega
      obtain ⟨e1, e2⟩ := num_no hno
      exact ⟨by rw [e1, e2], c116⟩

end Go.Proofs.YtdlcldaogcbnlaaDoor
