/- AppendChecksum and VerifyChecksum of both packages. -/
import Derived.Test.YtdlcldaogcbnlaaDoorNum2
import Derived.Test.YtdlcldaogcbnlaaDoorSplit
import Derived.Test.YtdlcldaogcbnlaaDoorSum
namespace Go.Proofs.YtdlcldaogcbnlaaDoor
open Go.RowKit
set_option linter.unusedVariables false
set_option linter.unusedSimpArgs false

set_option maxRecDepth 100000 in
set_option maxHeartbeats 1000000 in
theorem l1Seal_any (s : ByteArray) (w : World) (hs : s.size ≤ 1048576) :
    Calls Tryd.prog 76 #[.string s] w fun e w' => e = .returned (.string (sealB s)) ∧ Below w.heap.size w w' := by
  go_enter Tryd.func76, Tryd.ntmps76
  refine wp_seq_k (fun K1 h1 => ?_)
  refine W.region_quiet [(0, false)] (by kernel_rfl) ?_
  refine W.as (v := .string (⟨#[]⟩ : ByteArray)) (h := ?_)
  refine W.endF 9 [(0, .string s), (2, .string (⟨#[]⟩ : ByteArray))] (fun U1 => ?_)
  refine h1 _ _ ?_
  refine wp_seq_k (fun K2 h2 => ?_)
  refine W.region_plain (row := none) [(0, false), (1, false), (2, false), (3, true), (4, true), (5, false), (6, false)] (by kernel_rfl) ?_
  have s2 := SG.self w none
  refine W.mv (v := .string s) (h := ?_)
  refine W.q (v := .string (s ++ (⟨#[35]⟩ : ByteArray))) (hr := (r_addS (s := s) (r := (⟨#[35]⟩ : ByteArray)) rfl (by kernel_rfl) (by kernel_rfl) (by rw [size1]; omega))) (h := ?_)
  refine W.mv (v := .string s) (h := ?_)
  have hcs := csum_bd s.data.toList
  refine W.sc (vs := [.string s]) rfl rfl (by kernel_rfl) (by kernel_rfl) (by kernel_rfl) rfl (sum_spec s _ (by unfold maxLen; omega)) ?_
  rintro e w' ⟨rfl, rfl⟩
  refine ⟨_, rfl, s2, ?_⟩
  refine W.sc (vs := [.int .i64 (csum s.data.toList)]) rfl rfl (by kernel_rfl) (by kernel_rfl) (by kernel_rfl) rfl (l1Num_any (csum s.data.toList) (by omega) (by omega) _) ?_
  rintro e w6 ⟨rfl, b5⟩
  have s7 := SG.of_below s2 b5
  refine ⟨_, rfl, s7, ?_⟩
  refine W.q (v := .string ((s ++ (⟨#[35]⟩ : ByteArray)) ++ (itoaB (csum s.data.toList)))) (hr := (r_addS (s := (s ++ (⟨#[35]⟩ : ByteArray))) (r := (itoaB (csum s.data.toList))) rfl (by kernel_rfl) (by kernel_rfl) (by rw [ByteArray.size_append, size1]; have h9 := itoaB_le (n := csum s.data.toList) (by omega) (by omega); omega))) (h := ?_)
  refine W.as (v := .string ((s ++ (⟨#[35]⟩ : ByteArray)) ++ (itoaB (csum s.data.toList)))) (h := ?_)
  refine W.endF 9 [(0, .string s), (2, .string ((s ++ (⟨#[35]⟩ : ByteArray)) ++ (itoaB (csum s.data.toList))))] (fun U8 => ?_)
  have c9 := (SG.belowR (Below.refl _ _) s7 (fun kq e => by cases e))
  refine h2 _ _ ?_
  refine wp_ret ?_
  try simp only [Exit.then]
  refine ret1 (v := .string ((s ++ (⟨#[35]⟩ : ByteArray)) ++ (itoaB (csum s.data.toList)))) rfl (by kernel_rfl) ?_
  exact ⟨rfl, c9⟩

set_option maxRecDepth 100000 in
set_option maxHeartbeats 1000000 in
theorem AppendChecksum_spec (s : ByteArray) (w : World) (hs : s.size ≤ 1048576) :
    Calls Tryd.prog 34 #[.string s] w fun e w' => e = .returned (.tuple #[.string (AppendChecksum_v0 s), .bool (AppendChecksum_v1 s)]) ∧ Below w.heap.size w w' := by
  go_enter Tryd.func34, Tryd.ntmps34
  refine wp_seq_k (fun K1 h1 => ?_)
  refine W.region_quiet [(0, false), (1, false)] (by kernel_rfl) ?_
  refine W.as (v := .string (⟨#[]⟩ : ByteArray)) (h := ?_)
  refine W.as (v := .bool false) (h := ?_)
  refine W.endF 19 [(0, .string s), (2, .string (⟨#[]⟩ : ByteArray)), (3, .bool false)] (fun U1 => ?_)
  refine h1 _ _ ?_
  refine wp_seq_k (fun K2 h2 => ?_)
  refine wp_seq_k (fun K3 h3 => ?_)
  refine W.region_plain (row := none) [(0, false), (1, false), (2, false), (3, false), (4, false), (5, true), (6, false), (7, false), (8, false), (9, true), (10, false), (11, false), (12, false)] (by kernel_rfl) ?_
  have s2 := SG.self w none
  refine W.mv (v := .string s) (h := ?_)
  refine W.q (v := .int .i64 ((s.size : Nat) : Int)) (hr := (r_lenS (s := s) rfl (by kernel_rfl) (by kernel_rfl))) (h := ?_)
  by_cases q3 : (((s.size : Nat) : Int) : Int) > (4000 : Int)
  · refine W.q (v := .bool true) (hr := (r_gtr (m := ((s.size : Nat) : Int)) (n := 4000) rfl (by kernel_rfl) (by kernel_rfl) (decide_eq_true q3))) (h := ?_)
    refine W.mv (v := .bool true) (h := ?_)
    refine W.sp s2 (h := ?_)
    refine W.sp s2 (h := ?_)
    refine W.q (v := .bool true) (hr := (r_pick (b := true) rfl (by kernel_rfl) (by kernel_rfl))) (h := ?_)
    refine W.mv (v := .bool true) (h := ?_)
    refine W.sp s2 (h := ?_)
    refine W.sp s2 (h := ?_)
    refine W.sp s2 (h := ?_)
    refine W.sp s2 (h := ?_)
    refine W.q (v := .bool true) (hr := (r_pick (b := true) rfl (by kernel_rfl) (by kernel_rfl))) (h := ?_)
    refine W.endF 19 [(0, .string s), (2, .string (⟨#[]⟩ : ByteArray)), (3, .bool false), (16, .bool true)] (fun U4 => ?_)
    have c5 := (SG.belowR (Below.refl _ _) s2 (fun kq e => by cases e))
    refine h3 _ _ ?_
    refine wp_cond_true (by kernel_rfl) ?_
    refine wp_seq_k (fun K4 h4 => ?_)
    refine W.region_quiet [(0, false), (1, false)] (by kernel_rfl) ?_
    refine W.as (v := .string (⟨#[]⟩ : ByteArray)) (h := ?_)
    refine W.as (v := .bool false) (h := ?_)
    refine W.endF 19 [(0, .string s), (2, .string (⟨#[]⟩ : ByteArray)), (3, .bool false), (16, .bool true)] (fun U6 => ?_)
    refine h4 _ _ ?_
    refine wp_ret ?_
    try simp only [Exit.then]
    refine ret2 (v := .string (⟨#[]⟩ : ByteArray)) (x := .bool false) rfl (by kernel_rfl) (by kernel_rfl) ?_
    have e1 : AppendChecksum_v1 s = false := app_no1 (s := s) (by omega)
    have e2 := app_v0_no e1
    exact ⟨by rw [e1, e2], c5⟩
  · refine W.q (v := .bool false) (hr := (r_gtr (m := ((s.size : Nat) : Int)) (n := 4000) rfl (by kernel_rfl) (by kernel_rfl) (decide_eq_false q3))) (h := ?_)
    refine W.mv (v := .bool false) (h := ?_)
    refine W.mv (v := .string s) (h := ?_)
    refine W.sc (vs := [.string s, .int .u8 35]) rfl rfl (by kernel_rfl) (by kernel_rfl) (by kernel_rfl) rfl (l1Stands_any s 35 _ (by omega)) ?_
    rintro e w8 ⟨rfl, b7⟩
    have s9 := SG.of_below s2 b7
    refine ⟨_, rfl, s9, ?_⟩
    rcases Bool.eq_false_or_eq_true (standsB s 35) with q10 | q10
    · rw [q10]
      refine W.q (v := .bool true) (hr := (r_pick (b := false) rfl (by kernel_rfl) (by kernel_rfl))) (h := ?_)
      refine W.mv (v := .bool true) (h := ?_)
      refine W.sp s9 (h := ?_)
      refine W.sp s9 (h := ?_)
      refine W.sp s9 (h := ?_)
      refine W.sp s9 (h := ?_)
      refine W.q (v := .bool true) (hr := (r_pick (b := true) rfl (by kernel_rfl) (by kernel_rfl))) (h := ?_)
      refine W.endF 19 [(0, .string s), (2, .string (⟨#[]⟩ : ByteArray)), (3, .bool false), (16, .bool true)] (fun U11 => ?_)
      have c12 := (SG.belowR (Below.refl _ _) s9 (fun kq e => by cases e))
      refine h3 _ _ ?_
      refine wp_cond_true (by kernel_rfl) ?_
      refine wp_seq_k (fun K5 h5 => ?_)
      refine W.region_quiet [(0, false), (1, false)] (by kernel_rfl) ?_
      refine W.as (v := .string (⟨#[]⟩ : ByteArray)) (h := ?_)
      refine W.as (v := .bool false) (h := ?_)
      refine W.endF 19 [(0, .string s), (2, .string (⟨#[]⟩ : ByteArray)), (3, .bool false), (16, .bool true)] (fun U13 => ?_)
      refine h5 _ _ ?_
      refine wp_ret ?_
      try simp only [Exit.then]
      refine ret2 (v := .string (⟨#[]⟩ : ByteArray)) (x := .bool false) rfl (by kernel_rfl) (by kernel_rfl) ?_
      have e1 : AppendChecksum_v1 s = false := app_no2 q10
      have e2 := app_v0_no e1
      exact ⟨by rw [e1, e2], c12⟩
    · rw [q10]
      refine W.q (v := .bool false) (hr := (r_pick (b := false) rfl (by kernel_rfl) (by kernel_rfl))) (h := ?_)
      refine W.mv (v := .bool false) (h := ?_)
      refine W.mv (v := .string s) (h := ?_)
      have hse := seal_size s
      refine W.sc (vs := [.string s]) rfl rfl (by kernel_rfl) (by kernel_rfl) (by kernel_rfl) rfl (l1Seal_any s _ (by omega)) ?_
      rintro e w15 ⟨rfl, b14⟩
      have s16 := SG.of_below s9 b14
      refine ⟨_, rfl, s16, ?_⟩
      refine W.q (v := .int .i64 (((sealB s).size : Nat) : Int)) (hr := (r_lenS (s := (sealB s)) rfl (by kernel_rfl) (by kernel_rfl))) (h := ?_)
      by_cases q17 : ((((sealB s).size : Nat) : Int) : Int) > (4000 : Int)
      · refine W.q (v := .bool true) (hr := (r_gtr (m := (((sealB s).size : Nat) : Int)) (n := 4000) rfl (by kernel_rfl) (by kernel_rfl) (decide_eq_true q17))) (h := ?_)
        refine W.q (v := .bool true) (hr := (r_pick (b := false) rfl (by kernel_rfl) (by kernel_rfl))) (h := ?_)
        refine W.endF 19 [(0, .string s), (2, .string (⟨#[]⟩ : ByteArray)), (3, .bool false), (16, .bool true)] (fun U18 => ?_)
        have c19 := (SG.belowR (Below.refl _ _) s16 (fun kq e => by cases e))
        refine h3 _ _ ?_
        refine wp_cond_true (by kernel_rfl) ?_
        refine wp_seq_k (fun K6 h6 => ?_)
        refine W.region_quiet [(0, false), (1, false)] (by kernel_rfl) ?_
        refine W.as (v := .string (⟨#[]⟩ : ByteArray)) (h := ?_)
        refine W.as (v := .bool false) (h := ?_)
        refine W.endF 19 [(0, .string s), (2, .string (⟨#[]⟩ : ByteArray)), (3, .bool false), (16, .bool true)] (fun U20 => ?_)
        refine h6 _ _ ?_
        refine wp_ret ?_
        try simp only [Exit.then]
        refine ret2 (v := .string (⟨#[]⟩ : ByteArray)) (x := .bool false) rfl (by kernel_rfl) (by kernel_rfl) ?_
        have e1 : AppendChecksum_v1 s = false := app_no3 (s := s) (by unfold sealB at *; omega)
        have e2 := app_v0_no e1
        exact ⟨by rw [e1, e2], c19⟩
      · refine W.q (v := .bool false) (hr := (r_gtr (m := (((sealB s).size : Nat) : Int)) (n := 4000) rfl (by kernel_rfl) (by kernel_rfl) (decide_eq_false q17))) (h := ?_)
        refine W.q (v := .bool false) (hr := (r_pick (b := false) rfl (by kernel_rfl) (by kernel_rfl))) (h := ?_)
        refine W.endF 19 [(0, .string s), (2, .string (⟨#[]⟩ : ByteArray)), (3, .bool false), (16, .bool false)] (fun U21 => ?_)
        have c22 := (SG.belowR (Below.refl _ _) s16 (fun kq e => by cases e))
        refine h3 _ _ ?_
        refine wp_cond_false (by kernel_rfl) ?_
        refine wp_skip ?_
        refine h2 _ _ ?_
        refine wp_seq_k (fun K7 h7 => ?_)
        refine W.region_plain (row := none) [(0, false), (1, true), (2, false), (3, false)] (by kernel_rfl) ?_
        have s23 := SG.self w15 none
        refine W.mv (v := .string s) (h := ?_)
        have hse := seal_size s
        refine W.sc (vs := [.string s]) rfl rfl (by kernel_rfl) (by kernel_rfl) (by kernel_rfl) rfl (l1Seal_any s _ (by omega)) ?_
        rintro e w25 ⟨rfl, b24⟩
        have s26 := SG.of_below s23 b24
        refine ⟨_, rfl, s26, ?_⟩
        refine W.as (v := .string (sealB s)) (h := ?_)
        refine W.as (v := .bool true) (h := ?_)
        refine W.endF 19 [(0, .string s), (2, .string (sealB s)), (3, .bool true), (16, .bool false)] (fun U27 => ?_)
        have c28 := (SG.belowR c22 s26 (fun kq e => by cases e))
        refine h7 _ _ ?_
        refine wp_ret ?_
        try simp only [Exit.then]
        refine ret2 (v := .string (sealB s)) (x := .bool true) rfl (by kernel_rfl) (by kernel_rfl) ?_
        have e1 := app_yes (s := s) (by omega) q10 (by show ((sealB s)).size ≤ 4000; omega)
        have e2 := app_v0 e1
        exact ⟨by rw [e1, e2], c28⟩

set_option maxRecDepth 100000 in
set_option maxHeartbeats 1000000 in
theorem AppendChecksum_impl (s : ByteArray) (w : World) (hs : s.size ≤ 1048576) (htab : Lib.TabIs Tryd.prog w "internal/strconv.uint64pow10" .u64 Lib.pow10Tab) :
    Calls Tryd.prog 33 #[.string s] w fun e w' => e = .returned (.tuple #[.string (AppendChecksum_v0 s), .bool (AppendChecksum_v1 s)]) ∧ Below w.heap.size w w' := by
  go_enter Tryd.func33, Tryd.ntmps33
  refine wp_seq_k (fun K1 h1 => ?_)
  refine W.region_quiet [(0, false), (1, false)] (by kernel_rfl) ?_
  refine W.as (v := .string (⟨#[]⟩ : ByteArray)) (h := ?_)
  refine W.as (v := .bool false) (h := ?_)
  refine W.endF 22 [(0, .string s), (2, .string (⟨#[]⟩ : ByteArray)), (3, .bool false)] (fun U1 => ?_)
  refine h1 _ _ ?_
  refine wp_seq_k (fun K2 h2 => ?_)
  refine wp_seq_k (fun K3 h3 => ?_)
  refine W.region_plain (row := none) [(0, false), (1, false), (2, false), (3, false), (4, false), (5, true), (6, false)] (by kernel_rfl) ?_
  have s2 := SG.self w none
  refine W.mv (v := .string s) (h := ?_)
  refine W.q (v := .int .i64 ((s.size : Nat) : Int)) (hr := (r_lenS (s := s) rfl (by kernel_rfl) (by kernel_rfl))) (h := ?_)
  by_cases q3 : (((s.size : Nat) : Int) : Int) > (4000 : Int)
  · refine W.q (v := .bool true) (hr := (r_gtr (m := ((s.size : Nat) : Int)) (n := 4000) rfl (by kernel_rfl) (by kernel_rfl) (decide_eq_true q3))) (h := ?_)
    refine W.mv (v := .bool true) (h := ?_)
    refine W.sp s2 (h := ?_)
    refine W.sp s2 (h := ?_)
    refine W.q (v := .bool true) (hr := (r_pick (b := true) rfl (by kernel_rfl) (by kernel_rfl))) (h := ?_)
    refine W.endF 22 [(0, .string s), (2, .string (⟨#[]⟩ : ByteArray)), (3, .bool false), (11, .bool true)] (fun U4 => ?_)
    have c5 := (SG.belowR (Below.refl _ _) s2 (fun kq e => by cases e))
    refine h3 _ _ ?_
    refine wp_cond_true (by kernel_rfl) ?_
    refine wp_seq_k (fun K4 h4 => ?_)
    refine W.region_quiet [(0, false), (1, false)] (by kernel_rfl) ?_
    refine W.as (v := .string (⟨#[]⟩ : ByteArray)) (h := ?_)
    refine W.as (v := .bool false) (h := ?_)
    refine W.endF 22 [(0, .string s), (2, .string (⟨#[]⟩ : ByteArray)), (3, .bool false), (11, .bool true)] (fun U6 => ?_)
    refine h4 _ _ ?_
    refine wp_ret ?_
    try simp only [Exit.then]
    refine ret2 (v := .string (⟨#[]⟩ : ByteArray)) (x := .bool false) rfl (by kernel_rfl) (by kernel_rfl) ?_
    have e1 : AppendChecksum_v1 s = false := app_no1 (s := s) (by omega)
    have e2 := app_v0_no e1
    exact ⟨by rw [e1, e2], c5⟩
  · refine W.q (v := .bool false) (hr := (r_gtr (m := ((s.size : Nat) : Int)) (n := 4000) rfl (by kernel_rfl) (by kernel_rfl) (decide_eq_false q3))) (h := ?_)
    refine W.mv (v := .bool false) (h := ?_)
    refine W.mv (v := .string s) (h := ?_)
    refine W.sc (vs := [.string s, .string (⟨#[35]⟩ : ByteArray)]) rfl rfl (by kernel_rfl) (by kernel_rfl) (by kernel_rfl) rfl (contains_lib s _) ?_
    rintro e w8 ⟨rfl, b7⟩
    have s9 := SG.of_below s2 b7
    refine ⟨_, rfl, s9, ?_⟩
    rcases Bool.eq_false_or_eq_true (standsB s 35) with q10 | q10
    · rw [q10]
      refine W.q (v := .bool true) (hr := (r_pick (b := false) rfl (by kernel_rfl) (by kernel_rfl))) (h := ?_)
      refine W.endF 22 [(0, .string s), (2, .string (⟨#[]⟩ : ByteArray)), (3, .bool false), (11, .bool true)] (fun U11 => ?_)
      have c12 := (SG.belowR (Below.refl _ _) s9 (fun kq e => by cases e))
      refine h3 _ _ ?_
      refine wp_cond_true (by kernel_rfl) ?_
      refine wp_seq_k (fun K5 h5 => ?_)
      refine W.region_quiet [(0, false), (1, false)] (by kernel_rfl) ?_
      refine W.as (v := .string (⟨#[]⟩ : ByteArray)) (h := ?_)
      refine W.as (v := .bool false) (h := ?_)
      refine W.endF 22 [(0, .string s), (2, .string (⟨#[]⟩ : ByteArray)), (3, .bool false), (11, .bool true)] (fun U13 => ?_)
      refine h5 _ _ ?_
      refine wp_ret ?_
      try simp only [Exit.then]
      refine ret2 (v := .string (⟨#[]⟩ : ByteArray)) (x := .bool false) rfl (by kernel_rfl) (by kernel_rfl) ?_
      have e1 : AppendChecksum_v1 s = false := app_no2 q10
      have e2 := app_v0_no e1
      exact ⟨by rw [e1, e2], c12⟩
    · rw [q10]
      refine W.q (v := .bool false) (hr := (r_pick (b := false) rfl (by kernel_rfl) (by kernel_rfl))) (h := ?_)
      refine W.endF 22 [(0, .string s), (2, .string (⟨#[]⟩ : ByteArray)), (3, .bool false), (11, .bool false)] (fun U14 => ?_)
      have c15 := (SG.belowR (Below.refl _ _) s9 (fun kq e => by cases e))
      refine h3 _ _ ?_
      refine wp_cond_false (by kernel_rfl) ?_
      refine wp_skip ?_
      refine h2 _ _ ?_
      refine wp_seq_k (fun K6 h6 => ?_)
      refine W.region_plain (row := none) [(0, false), (1, false), (2, false), (3, true), (4, true), (5, false), (6, false)] (by kernel_rfl) ?_
      have s16 := SG.self w8 none
      refine W.mv (v := .string s) (h := ?_)
      refine W.q (v := .string (s ++ (⟨#[35]⟩ : ByteArray))) (hr := (r_addS (s := s) (r := (⟨#[35]⟩ : ByteArray)) rfl (by kernel_rfl) (by kernel_rfl) (by rw [size1]; omega))) (h := ?_)
      refine W.mv (v := .string s) (h := ?_)
      have hcs := csum_bd s.data.toList
      refine W.sc (vs := [.string s]) rfl rfl (by kernel_rfl) (by kernel_rfl) (by kernel_rfl) rfl (sum_impl s _ (by unfold maxLen; omega)) ?_
      rintro e w' ⟨rfl, rfl⟩
      refine ⟨_, rfl, s16, ?_⟩
      refine W.sc (vs := [.int .i64 (csum s.data.toList)]) rfl rfl (by kernel_rfl) (by kernel_rfl) (by kernel_rfl) rfl (itoa_lib (csum s.data.toList) (by omega) (by omega) _ (tab_kept htab (SG.belowR c15 s16 (fun kq e => by cases e)))) ?_
      rintro e w20 ⟨rfl, b19⟩
      have s21 := SG.of_below s16 b19
      refine ⟨_, rfl, s21, ?_⟩
      refine W.q (v := .string ((s ++ (⟨#[35]⟩ : ByteArray)) ++ (itoaB (csum s.data.toList)))) (hr := (r_addS (s := (s ++ (⟨#[35]⟩ : ByteArray))) (r := (itoaB (csum s.data.toList))) rfl (by kernel_rfl) (by kernel_rfl) (by rw [ByteArray.size_append, size1]; have h9 := itoaB_le (n := csum s.data.toList) (by omega) (by omega); omega))) (h := ?_)
      refine W.as (v := .string ((s ++ (⟨#[35]⟩ : ByteArray)) ++ (itoaB (csum s.data.toList)))) (h := ?_)
      refine W.endF 22 [(0, .string s), (2, .string (⟨#[]⟩ : ByteArray)), (3, .bool false), (4, .string ((s ++ (⟨#[35]⟩ : ByteArray)) ++ (itoaB (csum s.data.toList)))), (11, .bool false)] (fun U22 => ?_)
      have c23 := (SG.belowR c15 s21 (fun kq e => by cases e))
      refine h6 _ _ ?_
      refine wp_seq_k (fun K7 h7 => ?_)
      refine wp_seq_k (fun K8 h8 => ?_)
      refine W.region_quiet [(0, false), (1, false), (2, false)] (by kernel_rfl) ?_
      refine W.mv (v := .string ((s ++ (⟨#[35]⟩ : ByteArray)) ++ (itoaB (csum s.data.toList)))) (h := ?_)
      refine W.q (v := .int .i64 ((((s ++ (⟨#[35]⟩ : ByteArray)) ++ (itoaB (csum s.data.toList))).size : Nat) : Int)) (hr := (r_lenS (s := ((s ++ (⟨#[35]⟩ : ByteArray)) ++ (itoaB (csum s.data.toList)))) rfl (by kernel_rfl) (by kernel_rfl))) (h := ?_)
      by_cases q24 : (((((s ++ (⟨#[35]⟩ : ByteArray)) ++ (itoaB (csum s.data.toList))).size : Nat) : Int) : Int) > (4000 : Int)
      · refine W.q (v := .bool true) (hr := (r_gtr (m := ((((s ++ (⟨#[35]⟩ : ByteArray)) ++ (itoaB (csum s.data.toList))).size : Nat) : Int)) (n := 4000) rfl (by kernel_rfl) (by kernel_rfl) (decide_eq_true q24))) (h := ?_)
        refine W.endF 22 [(0, .string s), (2, .string (⟨#[]⟩ : ByteArray)), (3, .bool false), (4, .string ((s ++ (⟨#[35]⟩ : ByteArray)) ++ (itoaB (csum s.data.toList)))), (11, .bool false), (20, .bool true)] (fun U25 => ?_)
        refine h8 _ _ ?_
        refine wp_cond_true (by kernel_rfl) ?_
        refine wp_seq_k (fun K9 h9 => ?_)
        refine W.region_quiet [(0, false), (1, false)] (by kernel_rfl) ?_
        refine W.as (v := .string (⟨#[]⟩ : ByteArray)) (h := ?_)
        refine W.as (v := .bool false) (h := ?_)
        refine W.endF 22 [(0, .string s), (2, .string (⟨#[]⟩ : ByteArray)), (3, .bool false), (4, .string ((s ++ (⟨#[35]⟩ : ByteArray)) ++ (itoaB (csum s.data.toList)))), (11, .bool false), (20, .bool true)] (fun U26 => ?_)
        refine h9 _ _ ?_
        refine wp_ret ?_
        try simp only [Exit.then]
        refine ret2 (v := .string (⟨#[]⟩ : ByteArray)) (x := .bool false) rfl (by kernel_rfl) (by kernel_rfl) ?_
        have e1 : AppendChecksum_v1 s = false := app_no3 (s := s) (by unfold sealB at *; omega)
        have e2 := app_v0_no e1
        exact ⟨by rw [e1, e2], c23⟩
      · refine W.q (v := .bool false) (hr := (r_gtr (m := ((((s ++ (⟨#[35]⟩ : ByteArray)) ++ (itoaB (csum s.data.toList))).size : Nat) : Int)) (n := 4000) rfl (by kernel_rfl) (by kernel_rfl) (decide_eq_false q24))) (h := ?_)
        refine W.endF 22 [(0, .string s), (2, .string (⟨#[]⟩ : ByteArray)), (3, .bool false), (4, .string ((s ++ (⟨#[35]⟩ : ByteArray)) ++ (itoaB (csum s.data.toList)))), (11, .bool false), (20, .bool false)] (fun U27 => ?_)
        refine h8 _ _ ?_
        refine wp_cond_false (by kernel_rfl) ?_
        refine wp_skip ?_
        refine h7 _ _ ?_
        refine wp_seq_k (fun K10 h10 => ?_)
        refine W.region_quiet [(0, false), (1, false), (2, false)] (by kernel_rfl) ?_
        refine W.mv (v := .string ((s ++ (⟨#[35]⟩ : ByteArray)) ++ (itoaB (csum s.data.toList)))) (h := ?_)
        refine W.as (v := .string ((s ++ (⟨#[35]⟩ : ByteArray)) ++ (itoaB (csum s.data.toList)))) (h := ?_)
        refine W.as (v := .bool true) (h := ?_)
        refine W.endF 22 [(0, .string s), (2, .string ((s ++ (⟨#[35]⟩ : ByteArray)) ++ (itoaB (csum s.data.toList)))), (3, .bool true), (4, .string ((s ++ (⟨#[35]⟩ : ByteArray)) ++ (itoaB (csum s.data.toList)))), (11, .bool false), (20, .bool false)] (fun U28 => ?_)
        refine h10 _ _ ?_
        refine wp_ret ?_
        try simp only [Exit.then]
        refine ret2 (v := .string ((s ++ (⟨#[35]⟩ : ByteArray)) ++ (itoaB (csum s.data.toList)))) (x := .bool true) rfl (by kernel_rfl) (by kernel_rfl) ?_
        have e1 := app_yes (s := s) (by omega) q10 (by show (((s ++ (⟨#[35]⟩ : ByteArray)) ++ (itoaB (csum s.data.toList)))).size ≤ 4000; omega)
        have e2 := app_v0 e1
        exact ⟨by rw [e1, e2]; rfl, c23⟩

set_option maxRecDepth 100000 in
set_option maxHeartbeats 1000000 in
theorem VerifyChecksum_impl (s : ByteArray) (w : World) (hs : s.size ≤ 1048576) (htab : Lib.TabIs Tryd.prog w "internal/strconv.uint64pow10" .u64 Lib.pow10Tab) (hmax : MaxIs w) :
    Calls Tryd.prog 35 #[.string s] w fun e w' => e = .returned (.tuple #[.string (VerifyChecksum_v0 s), .bool (VerifyChecksum_v1 s)]) ∧ Below w.heap.size w w' := by
  have hhd := head_le s (c := 35) (by omega)
  go_enter Tryd.func35, Tryd.ntmps35
  refine wp_seq_k (fun K1 h1 => ?_)
  refine W.region_quiet [(0, false), (1, false)] (by kernel_rfl) ?_
  refine W.as (v := .string (⟨#[]⟩ : ByteArray)) (h := ?_)
  refine W.as (v := .bool false) (h := ?_)
  refine W.endF 30 [(0, .string s), (2, .string (⟨#[]⟩ : ByteArray)), (3, .bool false)] (fun U1 => ?_)
  refine h1 _ _ ?_
  refine wp_seq_k (fun K2 h2 => ?_)
  refine W.region_plain (row := none) [(0, false), (1, true), (2, false), (3, false), (4, false), (5, false), (6, false), (7, false), (8, false)] (by kernel_rfl) ?_
  have s2 := SG.self w none
  refine W.mv (v := .string s) (h := ?_)
  refine W.sc (vs := [.string s, .string (⟨#[35]⟩ : ByteArray)]) rfl rfl (by kernel_rfl) (by kernel_rfl) (by kernel_rfl) rfl (cut_lib s 35 _ (by omega) (max_kept hmax (SG.belowR (Below.refl _ _) s2 (fun kq e => by cases e)))) ?_
  rintro e w5 ⟨r3, rfl, hr3, b4⟩
  have s6 := SG.of_below s2 b4
  refine ⟨_, rfl, s6, ?_⟩
  refine W.mv (v := .tuple #[.string (headB s 35), .string r3, .bool (standsB s 35)]) (h := ?_)
  refine W.q (v := .string (headB s 35)) (hr := (r_extract (vs := #[.string (headB s 35), .string r3, .bool (standsB s 35)]) rfl (by kernel_rfl) (by kernel_rfl))) (h := ?_)
  refine W.q (v := .string r3) (hr := (r_extract (vs := #[.string (headB s 35), .string r3, .bool (standsB s 35)]) rfl (by kernel_rfl) (by kernel_rfl))) (h := ?_)
  refine W.q (v := .bool (standsB s 35)) (hr := (r_extract (vs := #[.string (headB s 35), .string r3, .bool (standsB s 35)]) rfl (by kernel_rfl) (by kernel_rfl))) (h := ?_)
  refine W.as (v := .string (headB s 35)) (h := ?_)
  refine W.as (v := .string r3) (h := ?_)
  refine W.as (v := .bool (standsB s 35)) (h := ?_)
  refine W.endF 30 [(0, .string s), (2, .string (⟨#[]⟩ : ByteArray)), (3, .bool false), (4, .string (headB s 35)), (6, .bool (standsB s 35))] (fun U7 => ?_)
  have c8 := (SG.belowR (Below.refl _ _) s6 (fun kq e => by cases e))
  refine h2 _ _ ?_
  refine wp_seq_k (fun K3 h3 => ?_)
  refine wp_seq_k (fun K4 h4 => ?_)
  refine W.region_quiet [(0, false), (1, false)] (by kernel_rfl) ?_
  refine W.mv (v := .bool (standsB s 35)) (h := ?_)
  rcases Bool.eq_false_or_eq_true (standsB s 35) with q9 | q9
  · rw [q9]
    refine W.q (v := .bool false) (hr := (r_not (b := true) rfl (by kernel_rfl) rfl)) (h := ?_)
    refine W.endF 30 [(0, .string s), (2, .string (⟨#[]⟩ : ByteArray)), (3, .bool false), (4, .string (headB s 35)), (6, .bool true), (16, .bool false)] (fun U10 => ?_)
    refine h4 _ _ ?_
    refine wp_cond_false (by kernel_rfl) ?_
    refine wp_skip ?_
    refine h3 _ _ ?_
    refine wp_seq_k (fun K5 h5 => ?_)
    refine wp_seq_k (fun K6 h6 => ?_)
    refine W.region_plain (row := none) [(0, false), (1, true), (2, false), (3, false), (4, false), (5, false), (6, false)] (by kernel_rfl) ?_
    have s11 := SG.self w5 none
    refine W.mv (v := .string (headB s 35)) (h := ?_)
    refine W.sc (vs := [.string (headB s 35)]) rfl rfl (by kernel_rfl) (by kernel_rfl) (by kernel_rfl) rfl (AppendChecksum_impl (headB s 35) _ (by omega) (tab_kept htab (SG.belowR c8 s11 (fun kq e => by cases e)))) ?_
    rintro e w13 ⟨rfl, b12⟩
    have s14 := SG.of_below s11 b12
    refine ⟨_, rfl, s14, ?_⟩
    refine W.mv (v := .tuple #[.string (AppendChecksum_v0 (headB s 35)), .bool (AppendChecksum_v1 (headB s 35))]) (h := ?_)
    refine W.q (v := .string (AppendChecksum_v0 (headB s 35))) (hr := (r_extract (vs := #[.string (AppendChecksum_v0 (headB s 35)), .bool (AppendChecksum_v1 (headB s 35))]) rfl (by kernel_rfl) (by kernel_rfl))) (h := ?_)
    refine W.q (v := .bool (AppendChecksum_v1 (headB s 35))) (hr := (r_extract (vs := #[.string (AppendChecksum_v0 (headB s 35)), .bool (AppendChecksum_v1 (headB s 35))]) rfl (by kernel_rfl) (by kernel_rfl))) (h := ?_)
    refine W.as (v := .string (AppendChecksum_v0 (headB s 35))) (h := ?_)
    refine W.as (v := .bool (AppendChecksum_v1 (headB s 35))) (h := ?_)
    refine W.endF 30 [(0, .string s), (2, .string (⟨#[]⟩ : ByteArray)), (3, .bool false), (4, .string (headB s 35)), (6, .bool true), (7, .string (AppendChecksum_v0 (headB s 35))), (8, .bool (AppendChecksum_v1 (headB s 35))), (16, .bool false)] (fun U15 => ?_)
    have c16 := (SG.belowR c8 s14 (fun kq e => by cases e))
    refine h6 _ _ ?_
    refine wp_seq_k (fun K7 h7 => ?_)
    refine W.region_quiet [(0, false), (1, false), (2, false), (3, false), (4, false), (5, false), (6, false)] (by kernel_rfl) ?_
    refine W.mv (v := .bool (AppendChecksum_v1 (headB s 35))) (h := ?_)
    rcases Bool.eq_false_or_eq_true (AppendChecksum_v1 (headB s 35)) with q17 | q17
    · rw [q17]
      refine W.q (v := .bool false) (hr := (r_not (b := true) rfl (by kernel_rfl) rfl)) (h := ?_)
      refine W.mv (v := .bool false) (h := ?_)
      refine W.mv (v := .string (AppendChecksum_v0 (headB s 35))) (h := ?_)
      refine W.mv (v := .string s) (h := ?_)
      by_cases q18 : (AppendChecksum_v0 (headB s 35)) = s
      · refine W.q (v := .bool false) (hr := (r_neqS (s := (AppendChecksum_v0 (headB s 35))) (r := s) rfl (by kernel_rfl) (by kernel_rfl) (by rw [decide_eq_true q18]; rfl))) (h := ?_)
        refine W.q (v := .bool false) (hr := (r_pick (b := false) rfl (by kernel_rfl) (by kernel_rfl))) (h := ?_)
        refine W.endF 30 [(0, .string s), (2, .string (⟨#[]⟩ : ByteArray)), (3, .bool false), (4, .string (headB s 35)), (6, .bool true), (7, .string (AppendChecksum_v0 (headB s 35))), (8, .bool true), (16, .bool false), (28, .bool false)] (fun U19 => ?_)
        refine h7 _ _ ?_
        refine wp_cond_false (by kernel_rfl) ?_
        refine wp_skip ?_
        refine h5 _ _ ?_
        refine wp_seq_k (fun K8 h8 => ?_)
        refine W.region_quiet [(0, false), (1, false), (2, false)] (by kernel_rfl) ?_
        refine W.mv (v := .string (headB s 35)) (h := ?_)
        refine W.as (v := .string (headB s 35)) (h := ?_)
        refine W.as (v := .bool true) (h := ?_)
        refine W.endF 30 [(0, .string s), (2, .string (headB s 35)), (3, .bool true), (4, .string (headB s 35)), (6, .bool true), (7, .string (AppendChecksum_v0 (headB s 35))), (8, .bool true), (16, .bool false), (28, .bool false)] (fun U20 => ?_)
        refine h8 _ _ ?_
        refine wp_ret ?_
        try simp only [Exit.then]
        refine ret2 (v := .string (headB s 35)) (x := .bool true) rfl (by kernel_rfl) (by kernel_rfl) ?_
        have hv := ver_ok q17 q18
        obtain ⟨e1, e2⟩ := ver_yes hv.1 hv.2
        exact ⟨by rw [e1, e2], c16⟩
      · refine W.q (v := .bool true) (hr := (r_neqS (s := (AppendChecksum_v0 (headB s 35))) (r := s) rfl (by kernel_rfl) (by kernel_rfl) (by rw [decide_eq_false q18]; rfl))) (h := ?_)
        refine W.q (v := .bool true) (hr := (r_pick (b := false) rfl (by kernel_rfl) (by kernel_rfl))) (h := ?_)
        refine W.endF 30 [(0, .string s), (2, .string (⟨#[]⟩ : ByteArray)), (3, .bool false), (4, .string (headB s 35)), (6, .bool true), (7, .string (AppendChecksum_v0 (headB s 35))), (8, .bool true), (16, .bool false), (28, .bool true)] (fun U21 => ?_)
        refine h7 _ _ ?_
        refine wp_cond_true (by kernel_rfl) ?_
        refine wp_seq_k (fun K9 h9 => ?_)
        refine W.region_quiet [(0, false), (1, false)] (by kernel_rfl) ?_
        refine W.as (v := .string (⟨#[]⟩ : ByteArray)) (h := ?_)
        refine W.as (v := .bool false) (h := ?_)
        refine W.endF 30 [(0, .string s), (2, .string (⟨#[]⟩ : ByteArray)), (3, .bool false), (4, .string (headB s 35)), (6, .bool true), (7, .string (AppendChecksum_v0 (headB s 35))), (8, .bool true), (16, .bool false), (28, .bool true)] (fun U22 => ?_)
        refine h9 _ _ ?_
        refine wp_ret ?_
        try simp only [Exit.then]
        refine ret2 (v := .string (⟨#[]⟩ : ByteArray)) (x := .bool false) rfl (by kernel_rfl) (by kernel_rfl) ?_
        obtain ⟨e1, e2⟩ := ver_no (s := s) (fun h => q18 (by rw [app_v0 q17]; exact h.2))
        exact ⟨by rw [e1, e2], c16⟩
    · rw [q17]
      refine W.q (v := .bool true) (hr := (r_not (b := false) rfl (by kernel_rfl) rfl)) (h := ?_)
      refine W.mv (v := .bool true) (h := ?_)
      refine W.sp rfl (h := ?_)
      refine W.sp rfl (h := ?_)
      refine W.sp rfl (h := ?_)
      refine W.q (v := .bool true) (hr := (r_pick (b := true) rfl (by kernel_rfl) (by kernel_rfl))) (h := ?_)
      refine W.endF 30 [(0, .string s), (2, .string (⟨#[]⟩ : ByteArray)), (3, .bool false), (4, .string (headB s 35)), (6, .bool true), (7, .string (AppendChecksum_v0 (headB s 35))), (8, .bool false), (16, .bool false), (28, .bool true)] (fun U23 => ?_)
      refine h7 _ _ ?_
      refine wp_cond_true (by kernel_rfl) ?_
      refine wp_seq_k (fun K10 h10 => ?_)
      refine W.region_quiet [(0, false), (1, false)] (by kernel_rfl) ?_
      refine W.as (v := .string (⟨#[]⟩ : ByteArray)) (h := ?_)
      refine W.as (v := .bool false) (h := ?_)
      refine W.endF 30 [(0, .string s), (2, .string (⟨#[]⟩ : ByteArray)), (3, .bool false), (4, .string (headB s 35)), (6, .bool true), (7, .string (AppendChecksum_v0 (headB s 35))), (8, .bool false), (16, .bool false), (28, .bool true)] (fun U24 => ?_)
      refine h10 _ _ ?_
      refine wp_ret ?_
      try simp only [Exit.then]
      refine ret2 (v := .string (⟨#[]⟩ : ByteArray)) (x := .bool false) rfl (by kernel_rfl) (by kernel_rfl) ?_
      obtain ⟨e1, e2⟩ := ver_no (ver_noapp q17)
      exact ⟨by rw [e1, e2], c16⟩
  · rw [q9]
    refine W.q (v := .bool true) (hr := (r_not (b := false) rfl (by kernel_rfl) rfl)) (h := ?_)
    refine W.endF 30 [(0, .string s), (2, .string (⟨#[]⟩ : ByteArray)), (3, .bool false), (4, .string (headB s 35)), (6, .bool false), (16, .bool true)] (fun U25 => ?_)
    refine h4 _ _ ?_
    refine wp_cond_true (by kernel_rfl) ?_
    refine wp_seq_k (fun K11 h11 => ?_)
    refine W.region_quiet [(0, false), (1, false)] (by kernel_rfl) ?_
    refine W.as (v := .string (⟨#[]⟩ : ByteArray)) (h := ?_)
    refine W.as (v := .bool false) (h := ?_)
    refine W.endF 30 [(0, .string s), (2, .string (⟨#[]⟩ : ByteArray)), (3, .bool false), (4, .string (headB s 35)), (6, .bool false), (16, .bool true)] (fun U26 => ?_)
    refine h11 _ _ ?_
    refine wp_ret ?_
    try simp only [Exit.then]
    refine ret2 (v := .string (⟨#[]⟩ : ByteArray)) (x := .bool false) rfl (by kernel_rfl) (by kernel_rfl) ?_
    obtain ⟨e1, e2⟩ := ver_no (ver_nofound q9)
    exact ⟨by rw [e1, e2], c8⟩

end Go.Proofs.YtdlcldaogcbnlaaDoor
