/- FormatInt and ParseInt of both packages. -/
import Derived.Test.YtdlcldaogcbnlaaDoorNum2
namespace Go.Proofs.YtdlcldaogcbnlaaDoor
open Go.RowKit
set_option linter.unusedVariables false
set_option linter.unusedSimpArgs false

def FormatInt_v1 (n : Int) : Bool := inB n (-999999) 999999
def FormatInt_v0 (n : Int) : ByteArray := if FormatInt_v1 n = true then itoaB n else ⟨#[]⟩
theorem form_yes {n : Int} (h : inB n (-999999) 999999 = true) : FormatInt_v1 n = true ∧ FormatInt_v0 n = itoaB n := ⟨h, if_pos h⟩
theorem form_no {n : Int} (h : inB n (-999999) 999999 = false) : FormatInt_v1 n = false ∧ FormatInt_v0 n = ⟨#[]⟩ := ⟨h, if_neg (by unfold FormatInt_v1; rw [h]; simp)⟩

set_option maxRecDepth 100000 in
set_option maxHeartbeats 1000000 in
theorem FormatInt_spec (n : Int) (w : World) :
    Calls Tryd.prog 28 #[.int .i64 n] w fun e w' => e = .returned (.tuple #[.string (FormatInt_v0 n), .bool (FormatInt_v1 n)]) ∧ Below w.heap.size w w' := by
  go_enter Tryd.func28, Tryd.ntmps28
  refine wp_seq_k (fun K1 h1 => ?_)
  refine W.region_quiet [(0, false), (1, false)] (by kernel_rfl) ?_
  refine W.as (v := .string (⟨#[]⟩ : ByteArray)) (h := ?_)
  refine W.as (v := .bool false) (h := ?_)
  refine W.endF 9 [(0, .int .i64 n), (2, .string (⟨#[]⟩ : ByteArray)), (3, .bool false)] (fun U1 => ?_)
  refine h1 _ _ ?_
  refine wp_seq_k (fun K2 h2 => ?_)
  refine wp_seq_k (fun K3 h3 => ?_)
  refine W.region_plain (row := none) [(0, false), (1, true), (2, false)] (by kernel_rfl) ?_
  have s2 := SG.self w none
  refine W.mv (v := .int .i64 n) (h := ?_)
  refine W.sc (vs := [.int .i64 n, .int .i64 (-999999), .int .i64 999999]) rfl rfl (by kernel_rfl) (by kernel_rfl) (by kernel_rfl) rfl (l1In_any n (-999999) 999999 _) ?_
  rintro e w' ⟨rfl, rfl⟩
  refine ⟨_, rfl, s2, ?_⟩
  rcases Bool.eq_false_or_eq_true (inB n (-999999) 999999) with q5 | q5
  · rw [q5]
    refine W.q (v := .bool false) (hr := (r_not (b := true) rfl (by kernel_rfl) rfl)) (h := ?_)
    refine W.endF 9 [(0, .int .i64 n), (2, .string (⟨#[]⟩ : ByteArray)), (3, .bool false), (6, .bool false)] (fun U6 => ?_)
    have c7 := (SG.belowR (Below.refl _ _) s2 (fun kq e => by cases e))
    refine h3 _ _ ?_
    refine wp_cond_false (by kernel_rfl) ?_
    refine wp_skip ?_
    refine h2 _ _ ?_
    refine wp_seq_k (fun K4 h4 => ?_)
    refine W.region_plain (row := none) [(0, false), (1, true), (2, false), (3, false)] (by kernel_rfl) ?_
    have s8 := SG.self w none
    refine W.mv (v := .int .i64 n) (h := ?_)
    have hbn := inB_yes.1 q5
    refine W.sc (vs := [.int .i64 n]) rfl rfl (by kernel_rfl) (by kernel_rfl) (by kernel_rfl) rfl (l1Num_any n (by omega) (by omega) _) ?_
    rintro e w10 ⟨rfl, b9⟩
    have s11 := SG.of_below s8 b9
    refine ⟨_, rfl, s11, ?_⟩
    refine W.as (v := .string (itoaB n)) (h := ?_)
    refine W.as (v := .bool true) (h := ?_)
    refine W.endF 9 [(0, .int .i64 n), (2, .string (itoaB n)), (3, .bool true), (6, .bool false)] (fun U12 => ?_)
    have c13 := (SG.belowR c7 s11 (fun kq e => by cases e))
    refine h4 _ _ ?_
    refine wp_ret ?_
    try simp only [Exit.then]
    refine ret2 (v := .string (itoaB n)) (x := .bool true) rfl (by kernel_rfl) (by kernel_rfl) ?_
    obtain ⟨e1, e2⟩ := form_yes q5
    exact ⟨by rw [e1, e2], c13⟩
  · rw [q5]
    refine W.q (v := .bool true) (hr := (r_not (b := false) rfl (by kernel_rfl) rfl)) (h := ?_)
    refine W.endF 9 [(0, .int .i64 n), (2, .string (⟨#[]⟩ : ByteArray)), (3, .bool false), (6, .bool true)] (fun U14 => ?_)
    have c15 := (SG.belowR (Below.refl _ _) s2 (fun kq e => by cases e))
    refine h3 _ _ ?_
    refine wp_cond_true (by kernel_rfl) ?_
    refine wp_seq_k (fun K5 h5 => ?_)
    refine W.region_quiet [(0, false), (1, false)] (by kernel_rfl) ?_
    refine W.as (v := .string (⟨#[]⟩ : ByteArray)) (h := ?_)
    refine W.as (v := .bool false) (h := ?_)
    refine W.endF 9 [(0, .int .i64 n), (2, .string (⟨#[]⟩ : ByteArray)), (3, .bool false), (6, .bool true)] (fun U16 => ?_)
    refine h5 _ _ ?_
    refine wp_ret ?_
    try simp only [Exit.then]
    refine ret2 (v := .string (⟨#[]⟩ : ByteArray)) (x := .bool false) rfl (by kernel_rfl) (by kernel_rfl) ?_
    obtain ⟨e1, e2⟩ := form_no q5
    exact ⟨by rw [e1, e2], c15⟩

set_option maxRecDepth 100000 in
set_option maxHeartbeats 1000000 in
theorem FormatInt_impl (n : Int) (w : World) (htab : Lib.TabIs Tryd.prog w "internal/strconv.uint64pow10" .u64 Lib.pow10Tab) :
    Calls Tryd.prog 27 #[.int .i64 n] w fun e w' => e = .returned (.tuple #[.string (FormatInt_v0 n), .bool (FormatInt_v1 n)]) ∧ Below w.heap.size w w' := by
  go_enter Tryd.func27, Tryd.ntmps27
  refine wp_seq_k (fun K1 h1 => ?_)
  refine W.region_quiet [(0, false), (1, false)] (by kernel_rfl) ?_
  refine W.as (v := .string (⟨#[]⟩ : ByteArray)) (h := ?_)
  refine W.as (v := .bool false) (h := ?_)
  refine W.endF 9 [(0, .int .i64 n), (2, .string (⟨#[]⟩ : ByteArray)), (3, .bool false)] (fun U1 => ?_)
  refine h1 _ _ ?_
  refine wp_seq_k (fun K2 h2 => ?_)
  refine wp_seq_k (fun K3 h3 => ?_)
  refine W.region_plain (row := none) [(0, false), (1, true), (2, false)] (by kernel_rfl) ?_
  have s2 := SG.self w none
  refine W.mv (v := .int .i64 n) (h := ?_)
  refine W.sc (vs := [.int .i64 n, .int .i64 (-999999), .int .i64 999999]) rfl rfl (by kernel_rfl) (by kernel_rfl) (by kernel_rfl) rfl (inside_any n (-999999) 999999 _) ?_
  rintro e w' ⟨rfl, rfl⟩
  refine ⟨_, rfl, s2, ?_⟩
  rcases Bool.eq_false_or_eq_true (inB n (-999999) 999999) with q5 | q5
  · rw [q5]
    refine W.q (v := .bool false) (hr := (r_not (b := true) rfl (by kernel_rfl) rfl)) (h := ?_)
    refine W.endF 9 [(0, .int .i64 n), (2, .string (⟨#[]⟩ : ByteArray)), (3, .bool false), (6, .bool false)] (fun U6 => ?_)
    have c7 := (SG.belowR (Below.refl _ _) s2 (fun kq e => by cases e))
    refine h3 _ _ ?_
    refine wp_cond_false (by kernel_rfl) ?_
    refine wp_skip ?_
    refine h2 _ _ ?_
    refine wp_seq_k (fun K4 h4 => ?_)
    refine W.region_plain (row := none) [(0, false), (1, true), (2, false), (3, false)] (by kernel_rfl) ?_
    have s8 := SG.self w none
    refine W.mv (v := .int .i64 n) (h := ?_)
    have hbn := inB_yes.1 q5
    refine W.sc (vs := [.int .i64 n]) rfl rfl (by kernel_rfl) (by kernel_rfl) (by kernel_rfl) rfl (itoa_lib n (by omega) (by omega) _ (tab_kept htab (SG.belowR c7 s8 (fun kq e => by cases e)))) ?_
    rintro e w10 ⟨rfl, b9⟩
    have s11 := SG.of_below s8 b9
    refine ⟨_, rfl, s11, ?_⟩
    refine W.as (v := .string (itoaB n)) (h := ?_)
    refine W.as (v := .bool true) (h := ?_)
    refine W.endF 9 [(0, .int .i64 n), (2, .string (itoaB n)), (3, .bool true), (6, .bool false)] (fun U12 => ?_)
    have c13 := (SG.belowR c7 s11 (fun kq e => by cases e))
    refine h4 _ _ ?_
    refine wp_ret ?_
    try simp only [Exit.then]
    refine ret2 (v := .string (itoaB n)) (x := .bool true) rfl (by kernel_rfl) (by kernel_rfl) ?_
    obtain ⟨e1, e2⟩ := form_yes q5
    exact ⟨by rw [e1, e2], c13⟩
  · rw [q5]
    refine W.q (v := .bool true) (hr := (r_not (b := false) rfl (by kernel_rfl) rfl)) (h := ?_)
    refine W.endF 9 [(0, .int .i64 n), (2, .string (⟨#[]⟩ : ByteArray)), (3, .bool false), (6, .bool true)] (fun U14 => ?_)
    have c15 := (SG.belowR (Below.refl _ _) s2 (fun kq e => by cases e))
    refine h3 _ _ ?_
    refine wp_cond_true (by kernel_rfl) ?_
    refine wp_seq_k (fun K5 h5 => ?_)
    refine W.region_quiet [(0, false), (1, false)] (by kernel_rfl) ?_
    refine W.as (v := .string (⟨#[]⟩ : ByteArray)) (h := ?_)
    refine W.as (v := .bool false) (h := ?_)
    refine W.endF 9 [(0, .int .i64 n), (2, .string (⟨#[]⟩ : ByteArray)), (3, .bool false), (6, .bool true)] (fun U16 => ?_)
    refine h5 _ _ ?_
    refine wp_ret ?_
    try simp only [Exit.then]
    refine ret2 (v := .string (⟨#[]⟩ : ByteArray)) (x := .bool false) rfl (by kernel_rfl) (by kernel_rfl) ?_
    obtain ⟨e1, e2⟩ := form_no q5
    exact ⟨by rw [e1, e2], c15⟩

set_option maxRecDepth 100000 in
set_option maxHeartbeats 1000000 in
theorem ParseInt_ok (s : ByteArray) (n : Int) (w : World) (hs : s.size ≤ 1048576) (hat : Lib.atoi s.data.toList = some n) (htab : Lib.TabIs Tryd.prog w "internal/strconv.uint64pow10" .u64 Lib.pow10Tab) :
    Calls Tryd.prog 30 #[.string s] w fun e w' => e = .returned (.tuple #[.int .i64 (ParseInt_v0 s), .bool (ParseInt_v1 s)]) ∧ Below w.heap.size w w' := by
  go_enter Tryd.func30, Tryd.ntmps30
  refine wp_seq_k (fun K1 h1 => ?_)
  refine W.region_quiet [(0, false), (1, false)] (by kernel_rfl) ?_
  refine W.as (v := .int .i64 0) (h := ?_)
  refine W.as (v := .bool false) (h := ?_)
  refine W.endF 28 [(0, .string s), (2, .int .i64 0), (3, .bool false)] (fun U1 => ?_)
  refine h1 _ _ ?_
  refine wp_seq_k (fun K2 h2 => ?_)
  refine wp_seq_k (fun K3 h3 => ?_)
  refine W.region_quiet [(0, false), (1, false), (2, false)] (by kernel_rfl) ?_
  refine W.mv (v := .string s) (h := ?_)
  refine W.q (v := .int .i64 ((s.size : Nat) : Int)) (hr := (r_lenS (s := s) rfl (by kernel_rfl) (by kernel_rfl))) (h := ?_)
  by_cases q2 : (((s.size : Nat) : Int) : Int) > (7 : Int)
  · refine W.q (v := .bool true) (hr := (r_gtr (m := ((s.size : Nat) : Int)) (n := 7) rfl (by kernel_rfl) (by kernel_rfl) (decide_eq_true q2))) (h := ?_)
    refine W.endF 28 [(0, .string s), (2, .int .i64 0), (3, .bool false), (8, .bool true)] (fun U3 => ?_)
    refine h3 _ _ ?_
    refine wp_cond_true (by kernel_rfl) ?_
    refine wp_seq_k (fun K4 h4 => ?_)
    refine W.region_quiet [(0, false), (1, false)] (by kernel_rfl) ?_
    refine W.as (v := .int .i64 0) (h := ?_)
    refine W.as (v := .bool false) (h := ?_)
    refine W.endF 28 [(0, .string s), (2, .int .i64 0), (3, .bool false), (8, .bool true)] (fun U4 => ?_)
    refine h4 _ _ ?_
    refine wp_ret ?_
    try simp only [Exit.then]
    refine ret2 (v := .int .i64 0) (x := .bool false) rfl (by kernel_rfl) (by kernel_rfl) ?_
    have hno : ¬ isNum s := fun h => by have := num_len h; omega
    obtain ⟨e1, e2⟩ := num_no hno
    exact ⟨by rw [e1, e2], (Below.refl _ _)⟩
  · refine W.q (v := .bool false) (hr := (r_gtr (m := ((s.size : Nat) : Int)) (n := 7) rfl (by kernel_rfl) (by kernel_rfl) (decide_eq_false q2))) (h := ?_)
    refine W.endF 28 [(0, .string s), (2, .int .i64 0), (3, .bool false), (8, .bool false)] (fun U5 => ?_)
    refine h3 _ _ ?_
    refine wp_cond_false (by kernel_rfl) ?_
    refine wp_skip ?_
    refine h2 _ _ ?_
    refine wp_seq_k (fun K5 h5 => ?_)
    refine W.region_plain (row := none) [(0, false), (1, true), (2, false), (3, false), (4, false), (5, false), (6, false)] (by kernel_rfl) ?_
    have s6 := SG.self w none
    refine W.mv (v := .string s) (h := ?_)
    refine W.sc (vs := [.string s]) rfl rfl (by kernel_rfl) (by kernel_rfl) (by kernel_rfl) rfl (atoi_ok s n _ (by omega) hat) ?_
    rintro e w8 ⟨rfl, b7⟩
    have s9 := SG.of_below s6 b7
    refine ⟨_, rfl, s9, ?_⟩
    refine W.mv (v := .tuple #[.int .i64 n, Value.nilIface]) (h := ?_)
    refine W.q (v := .int .i64 n) (hr := (r_extract (vs := #[.int .i64 n, Value.nilIface]) rfl (by kernel_rfl) (by kernel_rfl))) (h := ?_)
    refine W.q (v := Value.nilIface) (hr := (r_extract (vs := #[.int .i64 n, Value.nilIface]) rfl (by kernel_rfl) (by kernel_rfl))) (h := ?_)
    refine W.as (v := .int .i64 n) (h := ?_)
    refine W.as (v := Value.nilIface) (h := ?_)
    refine W.endF 28 [(0, .string s), (2, .int .i64 0), (3, .bool false), (4, .int .i64 n), (5, Value.nilIface), (8, .bool false)] (fun U10 => ?_)
    have c11 := (SG.belowR (Below.refl _ _) s9 (fun kq e => by cases e))
    refine h5 _ _ ?_
    refine wp_seq_k (fun K6 h6 => ?_)
    refine wp_seq_k (fun K7 h7 => ?_)
    refine W.region_plain (row := none) [(0, false), (1, false), (2, false), (3, false), (4, true), (5, false), (6, false), (7, false), (8, false), (9, true), (10, false), (11, false), (12, false)] (by kernel_rfl) ?_
    have s12 := SG.self w8 none
    refine W.mv (v := Value.nilIface) (h := ?_)
    refine W.q (v := .bool false) (hr := (r_neqNil0 rfl (by kernel_rfl) (by kernel_rfl))) (h := ?_)
    refine W.mv (v := .bool false) (h := ?_)
    refine W.mv (v := .int .i64 n) (h := ?_)
    refine W.sc (vs := [.int .i64 n, .int .i64 (-999999), .int .i64 999999]) rfl rfl (by kernel_rfl) (by kernel_rfl) (by kernel_rfl) rfl (inside_any n (-999999) 999999 _) ?_
    rintro e w' ⟨rfl, rfl⟩
    refine ⟨_, rfl, s12, ?_⟩
    rcases Bool.eq_false_or_eq_true (inB n (-999999) 999999) with q15 | q15
    · rw [q15]
      refine W.q (v := .bool false) (hr := (r_not (b := true) rfl (by kernel_rfl) rfl)) (h := ?_)
      refine W.q (v := .bool false) (hr := (r_pick (b := false) rfl (by kernel_rfl) (by kernel_rfl))) (h := ?_)
      refine W.mv (v := .bool false) (h := ?_)
      refine W.mv (v := .int .i64 n) (h := ?_)
      have hbn := inB_yes.1 q15
      refine W.sc (vs := [.int .i64 n]) rfl rfl (by kernel_rfl) (by kernel_rfl) (by kernel_rfl) rfl (itoa_lib n (by omega) (by omega) _ (tab_kept htab (SG.belowR c11 s12 (fun kq e => by cases e)))) ?_
      rintro e w17 ⟨rfl, b16⟩
      have s18 := SG.of_below s12 b16
      refine ⟨_, rfl, s18, ?_⟩
      refine W.mv (v := .string s) (h := ?_)
      by_cases q19 : (itoaB n) = s
      · refine W.q (v := .bool false) (hr := (r_neqS (s := (itoaB n)) (r := s) rfl (by kernel_rfl) (by kernel_rfl) (by rw [decide_eq_true q19]; rfl))) (h := ?_)
        refine W.q (v := .bool false) (hr := (r_pick (b := false) rfl (by kernel_rfl) (by kernel_rfl))) (h := ?_)
        refine W.endF 28 [(0, .string s), (2, .int .i64 0), (3, .bool false), (4, .int .i64 n), (5, Value.nilIface), (8, .bool false), (26, .bool false)] (fun U20 => ?_)
        have c21 := (SG.belowR c11 s18 (fun kq e => by cases e))
        refine h7 _ _ ?_
        refine wp_cond_false (by kernel_rfl) ?_
        refine wp_skip ?_
        refine h6 _ _ ?_
        refine wp_seq_k (fun K8 h8 => ?_)
        refine W.region_quiet [(0, false), (1, false), (2, false)] (by kernel_rfl) ?_
        refine W.mv (v := .int .i64 n) (h := ?_)
        refine W.as (v := .int .i64 n) (h := ?_)
        refine W.as (v := .bool true) (h := ?_)
        refine W.endF 28 [(0, .string s), (2, .int .i64 n), (3, .bool true), (4, .int .i64 n), (5, Value.nilIface), (8, .bool false), (26, .bool false)] (fun U22 => ?_)
        refine h8 _ _ ?_
        refine wp_ret ?_
        try simp only [Exit.then]
        refine ret2 (v := .int .i64 n) (x := .bool true) rfl (by kernel_rfl) (by kernel_rfl) ?_
        obtain ⟨e1, e2⟩ := num_yes ⟨hbn.1, hbn.2⟩ q19
        exact ⟨by rw [e1, e2], c21⟩
      · refine W.q (v := .bool true) (hr := (r_neqS (s := (itoaB n)) (r := s) rfl (by kernel_rfl) (by kernel_rfl) (by rw [decide_eq_false q19]; rfl))) (h := ?_)
        refine W.q (v := .bool true) (hr := (r_pick (b := false) rfl (by kernel_rfl) (by kernel_rfl))) (h := ?_)
        refine W.endF 28 [(0, .string s), (2, .int .i64 0), (3, .bool false), (4, .int .i64 n), (5, Value.nilIface), (8, .bool false), (26, .bool true)] (fun U23 => ?_)
        have c24 := (SG.belowR c11 s18 (fun kq e => by cases e))
        refine h7 _ _ ?_
        refine wp_cond_true (by kernel_rfl) ?_
        refine wp_seq_k (fun K9 h9 => ?_)
        refine W.region_quiet [(0, false), (1, false)] (by kernel_rfl) ?_
        refine W.as (v := .int .i64 0) (h := ?_)
        refine W.as (v := .bool false) (h := ?_)
        refine W.endF 28 [(0, .string s), (2, .int .i64 0), (3, .bool false), (4, .int .i64 n), (5, Value.nilIface), (8, .bool false), (26, .bool true)] (fun U25 => ?_)
        refine h9 _ _ ?_
        refine wp_ret ?_
        try simp only [Exit.then]
        refine ret2 (v := .int .i64 0) (x := .bool false) rfl (by kernel_rfl) (by kernel_rfl) ?_
        have hno : ¬ isNum s := fun h => q19 (by obtain ⟨m9, _, e9⟩ := h; have h9 := hat; rw [← e9, itoaB_list, atoi_itoa] at h9; rw [← Option.some.inj h9, e9])
        obtain ⟨e1, e2⟩ := num_no hno
        exact ⟨by rw [e1, e2], c24⟩
    · rw [q15]
      refine W.q (v := .bool true) (hr := (r_not (b := false) rfl (by kernel_rfl) rfl)) (h := ?_)
      refine W.q (v := .bool true) (hr := (r_pick (b := false) rfl (by kernel_rfl) (by kernel_rfl))) (h := ?_)
      refine W.mv (v := .bool true) (h := ?_)
      refine W.sp s12 (h := ?_)
      refine W.sp s12 (h := ?_)
      refine W.sp s12 (h := ?_)
      refine W.sp s12 (h := ?_)
      refine W.q (v := .bool true) (hr := (r_pick (b := true) rfl (by kernel_rfl) (by kernel_rfl))) (h := ?_)
      refine W.endF 28 [(0, .string s), (2, .int .i64 0), (3, .bool false), (4, .int .i64 n), (5, Value.nilIface), (8, .bool false), (26, .bool true)] (fun U26 => ?_)
      have c27 := (SG.belowR c11 s12 (fun kq e => by cases e))
      refine h7 _ _ ?_
      refine wp_cond_true (by kernel_rfl) ?_
      refine wp_seq_k (fun K10 h10 => ?_)
      refine W.region_quiet [(0, false), (1, false)] (by kernel_rfl) ?_
      refine W.as (v := .int .i64 0) (h := ?_)
      refine W.as (v := .bool false) (h := ?_)
      refine W.endF 28 [(0, .string s), (2, .int .i64 0), (3, .bool false), (4, .int .i64 n), (5, Value.nilIface), (8, .bool false), (26, .bool true)] (fun U28 => ?_)
      refine h10 _ _ ?_
      refine wp_ret ?_
      try simp only [Exit.then]
      refine ret2 (v := .int .i64 0) (x := .bool false) rfl (by kernel_rfl) (by kernel_rfl) ?_
      have hno : ¬ isNum s := fun h => by
        obtain ⟨m9, h8, e9⟩ := h
        have h9 := hat
        rw [← e9, itoaB_list, atoi_itoa] at h9
        have h7 := inB_no.1 q15
        have h6 := Option.some.inj h9
        omega
      obtain ⟨e1, e2⟩ := num_no hno
      exact ⟨by rw [e1, e2], c27⟩

set_option maxRecDepth 100000 in
set_option maxHeartbeats 1000000 in
theorem ParseInt_err (s : ByteArray) (w : World) (hs : s.size ≤ 1048576) (hat : Lib.atoi s.data.toList = none) (hev : EvIs w) :
    Calls Tryd.prog 30 #[.string s] w fun e w' => e = .returned (.tuple #[.int .i64 (ParseInt_v0 s), .bool (ParseInt_v1 s)]) ∧ Below w.heap.size w w' := by
  go_enter Tryd.func30, Tryd.ntmps30
  refine wp_seq_k (fun K1 h1 => ?_)
  refine W.region_quiet [(0, false), (1, false)] (by kernel_rfl) ?_
  refine W.as (v := .int .i64 0) (h := ?_)
  refine W.as (v := .bool false) (h := ?_)
  refine W.endF 28 [(0, .string s), (2, .int .i64 0), (3, .bool false)] (fun U1 => ?_)
  refine h1 _ _ ?_
  refine wp_seq_k (fun K2 h2 => ?_)
  refine wp_seq_k (fun K3 h3 => ?_)
  refine W.region_quiet [(0, false), (1, false), (2, false)] (by kernel_rfl) ?_
  refine W.mv (v := .string s) (h := ?_)
  refine W.q (v := .int .i64 ((s.size : Nat) : Int)) (hr := (r_lenS (s := s) rfl (by kernel_rfl) (by kernel_rfl))) (h := ?_)
  by_cases q2 : (((s.size : Nat) : Int) : Int) > (7 : Int)
  · refine W.q (v := .bool true) (hr := (r_gtr (m := ((s.size : Nat) : Int)) (n := 7) rfl (by kernel_rfl) (by kernel_rfl) (decide_eq_true q2))) (h := ?_)
    refine W.endF 28 [(0, .string s), (2, .int .i64 0), (3, .bool false), (8, .bool true)] (fun U3 => ?_)
    refine h3 _ _ ?_
    refine wp_cond_true (by kernel_rfl) ?_
    refine wp_seq_k (fun K4 h4 => ?_)
    refine W.region_quiet [(0, false), (1, false)] (by kernel_rfl) ?_
    refine W.as (v := .int .i64 0) (h := ?_)
    refine W.as (v := .bool false) (h := ?_)
    refine W.endF 28 [(0, .string s), (2, .int .i64 0), (3, .bool false), (8, .bool true)] (fun U4 => ?_)
    refine h4 _ _ ?_
    refine wp_ret ?_
    try simp only [Exit.then]
    refine ret2 (v := .int .i64 0) (x := .bool false) rfl (by kernel_rfl) (by kernel_rfl) ?_
    have hno : ¬ isNum s := fun h => by have := num_len h; omega
    obtain ⟨e1, e2⟩ := num_no hno
    exact ⟨by rw [e1, e2], (Below.refl _ _)⟩
  · refine W.q (v := .bool false) (hr := (r_gtr (m := ((s.size : Nat) : Int)) (n := 7) rfl (by kernel_rfl) (by kernel_rfl) (decide_eq_false q2))) (h := ?_)
    refine W.endF 28 [(0, .string s), (2, .int .i64 0), (3, .bool false), (8, .bool false)] (fun U5 => ?_)
    refine h3 _ _ ?_
    refine wp_cond_false (by kernel_rfl) ?_
    refine wp_skip ?_
    refine h2 _ _ ?_
    refine wp_seq_k (fun K5 h5 => ?_)
    refine W.region_plain (row := none) [(0, false), (1, true), (2, false), (3, false), (4, false), (5, false), (6, false)] (by kernel_rfl) ?_
    have s6 := SG.self w none
    refine W.mv (v := .string s) (h := ?_)
    refine W.sc (vs := [.string s]) rfl rfl (by kernel_rfl) (by kernel_rfl) (by kernel_rfl) rfl (atoi_err s _ (by omega) hat (ev_kept hev (SG.belowR (Below.refl _ _) s6 (fun kq e => by cases e)))) ?_
    rintro e w9 ⟨tq, N7, rfl, b8⟩
    have s10 := SG.of_below s6 b8
    refine ⟨_, rfl, s10, ?_⟩
    refine W.mv (v := .tuple #[.int .i64 0, (.iface tq N7)]) (h := ?_)
    refine W.q (v := .int .i64 0) (hr := (r_extract (vs := #[.int .i64 0, (.iface tq N7)]) rfl (by kernel_rfl) (by kernel_rfl))) (h := ?_)
    refine W.q (v := (.iface tq N7)) (hr := (r_extract (vs := #[.int .i64 0, (.iface tq N7)]) rfl (by kernel_rfl) (by kernel_rfl))) (h := ?_)
    refine W.as (v := .int .i64 0) (h := ?_)
    refine W.as (v := (.iface tq N7)) (h := ?_)
    refine W.endF 28 [(0, .string s), (2, .int .i64 0), (3, .bool false), (4, .int .i64 0), (5, (.iface tq N7)), (8, .bool false)] (fun U11 => ?_)
    have c12 := (SG.belowR (Below.refl _ _) s10 (fun kq e => by cases e))
    refine h5 _ _ ?_
    refine wp_seq_k (fun K6 h6 => ?_)
    refine wp_seq_k (fun K7 h7 => ?_)
    refine W.region_plain (row := none) [(0, false), (1, false), (2, false), (3, false), (4, true), (5, false), (6, false), (7, false), (8, false), (9, true), (10, false), (11, false), (12, false)] (by kernel_rfl) ?_
    have s13 := SG.self w9 none
    refine W.mv (v := (.iface tq N7)) (h := ?_)
    refine W.q (v := .bool true) (hr := (r_neqNil1 (tt := tq) (p := N7) rfl (by kernel_rfl) (by kernel_rfl))) (h := ?_)
    refine W.mv (v := .bool true) (h := ?_)
    refine W.sp s13 (h := ?_)
    refine W.sp s13 (h := ?_)
    refine W.sp s13 (h := ?_)
    refine W.q (v := .bool true) (hr := (r_pick (b := true) rfl (by kernel_rfl) (by kernel_rfl))) (h := ?_)
    refine W.mv (v := .bool true) (h := ?_)
    refine W.sp s13 (h := ?_)
    refine W.sp s13 (h := ?_)
    refine W.sp s13 (h := ?_)
    refine W.sp s13 (h := ?_)
    refine W.q (v := .bool true) (hr := (r_pick (b := true) rfl (by kernel_rfl) (by kernel_rfl))) (h := ?_)
    refine W.endF 28 [(0, .string s), (2, .int .i64 0), (3, .bool false), (4, .int .i64 0), (5, (.iface tq N7)), (8, .bool false), (26, .bool true)] (fun U14 => ?_)
    have c15 := (SG.belowR c12 s13 (fun kq e => by cases e))
    refine h7 _ _ ?_
    refine wp_cond_true (by kernel_rfl) ?_
    refine wp_seq_k (fun K8 h8 => ?_)
    refine W.region_quiet [(0, false), (1, false)] (by kernel_rfl) ?_
    refine W.as (v := .int .i64 0) (h := ?_)
    refine W.as (v := .bool false) (h := ?_)
    refine W.endF 28 [(0, .string s), (2, .int .i64 0), (3, .bool false), (4, .int .i64 0), (5, (.iface tq N7)), (8, .bool false), (26, .bool true)] (fun U16 => ?_)
    refine h8 _ _ ?_
    refine wp_ret ?_
    try simp only [Exit.then]
    refine ret2 (v := .int .i64 0) (x := .bool false) rfl (by kernel_rfl) (by kernel_rfl) ?_
    have hno : ¬ isNum s := fun h => by
      obtain ⟨m9, _, e9⟩ := h
      have h9 := hat
      rw [← e9, itoaB_list, atoi_itoa] at h9
      cases h9
    obtain ⟨e1, e2⟩ := num_no hno
    exact ⟨by rw [e1, e2], c15⟩

theorem ParseInt_impl (s : ByteArray) (w : World) (hs : s.size ≤ 1048576) (htab : Lib.TabIs Tryd.prog w "internal/strconv.uint64pow10" .u64 Lib.pow10Tab) (hev : EvIs w) : Calls Tryd.prog 30 #[.string s] w fun e w' => e = .returned (.tuple #[.int .i64 (ParseInt_v0 s), .bool (ParseInt_v1 s)]) ∧ Below w.heap.size w w' := by
  cases h : Lib.atoi s.data.toList with
  | none => exact ParseInt_err s w hs h hev
  | some n => exact ParseInt_ok s n w hs h htab

set_option maxRecDepth 100000 in
set_option maxHeartbeats 1000000 in
theorem ParseInt_spec (s : ByteArray) (w : World) (hs : s.size ≤ 1048576) :
    Calls Tryd.prog 31 #[.string s] w fun e w' => e = .returned (.tuple #[.int .i64 (ParseInt_v0 s), .bool (ParseInt_v1 s)]) ∧ Below w.heap.size w w' := by
  go_enter Tryd.func31, Tryd.ntmps31
  refine wp_seq_k (fun K1 h1 => ?_)
  refine W.region_quiet [(0, false), (1, false)] (by kernel_rfl) ?_
  refine W.as (v := .int .i64 0) (h := ?_)
  refine W.as (v := .bool false) (h := ?_)
  refine W.endF 8 [(0, .string s), (2, .int .i64 0), (3, .bool false)] (fun U1 => ?_)
  refine h1 _ _ ?_
  refine wp_seq_k (fun K2 h2 => ?_)
  refine W.region_plain (row := none) [(0, false), (1, true), (2, false), (3, false), (4, false), (5, false)] (by kernel_rfl) ?_
  have s2 := SG.self w none
  refine W.mv (v := .string s) (h := ?_)
  refine W.sc (vs := [.string s]) rfl rfl (by kernel_rfl) (by kernel_rfl) (by kernel_rfl) rfl (l1Read_any s _ (by omega)) ?_
  rintro e w4 ⟨rfl, b3⟩
  have s5 := SG.of_below s2 b3
  refine ⟨_, rfl, s5, ?_⟩
  refine W.q (v := .int .i64 (ParseInt_v0 s)) (hr := (r_extract (vs := #[.int .i64 (ParseInt_v0 s), .bool (ParseInt_v1 s)]) rfl (by kernel_rfl) (by kernel_rfl))) (h := ?_)
  refine W.q (v := .bool (ParseInt_v1 s)) (hr := (r_extract (vs := #[.int .i64 (ParseInt_v0 s), .bool (ParseInt_v1 s)]) rfl (by kernel_rfl) (by kernel_rfl))) (h := ?_)
  refine W.as (v := .int .i64 (ParseInt_v0 s)) (h := ?_)
  refine W.as (v := .bool (ParseInt_v1 s)) (h := ?_)
  refine W.endF 8 [(0, .string s), (2, .int .i64 (ParseInt_v0 s)), (3, .bool (ParseInt_v1 s))] (fun U6 => ?_)
  have c7 := (SG.belowR (Below.refl _ _) s5 (fun kq e => by cases e))
  refine h2 _ _ ?_
  refine wp_ret ?_
  try simp only [Exit.then]
  refine ret2 (v := .int .i64 (ParseInt_v0 s)) (x := .bool (ParseInt_v1 s)) rfl (by kernel_rfl) (by kernel_rfl) ?_
  exact ⟨rfl, c7⟩

end Go.Proofs.YtdlcldaogcbnlaaDoor
