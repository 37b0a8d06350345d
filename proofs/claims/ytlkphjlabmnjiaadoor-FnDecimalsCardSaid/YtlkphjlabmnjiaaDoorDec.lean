/- Decimal texts: both packages. -/
import Derived.Test.YtlkphjlabmnjiaaDoorNum2
import Derived.Test.YtlkphjlabmnjiaaDoorAmtP
import Derived.Test.YtlkphjlabmnjiaaDoorRes
namespace Go.Proofs.YtlkphjlabmnjiaaDoor
open Go.RowKit
set_option linter.unusedVariables false
set_option linter.unusedSimpArgs false

def dgB (K : Nat) : UInt8 := UInt8.ofNat (48 + K % 10)
theorem dgB_wrap (K : Nat) : IntKind.u8.wrap (48 + ((K % 10 : Nat) : Int)) = (((dgB K).toNat : Nat) : Int) := by
  have h : 48 + K % 10 < 256 := by omega
  rw [show (48 : Int) + ((K % 10 : Nat) : Int) = ((48 + K % 10 : Nat) : Int) by omega, show (dgB K).toNat = 48 + K % 10 from by unfold dgB; simp; omega]
  exact IntWalk.u8_in _ (by omega)

theorem dec_no {a b c : Int} (h : inB a 0 1000000000000 = false ∨ inB b 1 1000000 = false ∨ inB c 0 4 = false) : DecimalText_v1 a b c = false ∧ DecimalText_v0 a b c = ⟨#[]⟩ := by
  have h1 : DecimalText_v1 a b c = false := by
    unfold DecimalText_v1
    rcases h with h | h | h <;> rw [h] <;> simp
  exact ⟨h1, if_neg (by rw [h1]; simp)⟩
theorem dec_yes {a b c : Nat} (ha : a ≤ 1000000000000) (hb : 1 ≤ b ∧ b ≤ 1000000) (hc : c ≤ 4) : DecimalText_v1 a b c = true ∧ DecimalText_v0 a b c = decB (roundN a b c) c := by
  have h1 : DecimalText_v1 a b c = true := by
    unfold DecimalText_v1
    rw [inB_yes.2 ⟨by omega, by omega⟩, inB_yes.2 ⟨by omega, by omega⟩, inB_yes.2 ⟨by omega, by omega⟩]; rfl
  exact ⟨h1, if_pos h1⟩
theorem pow_le4 {p : Nat} (h : p ≤ 4) : 1 ≤ 10 ^ p ∧ 10 ^ p ≤ 10000 := ⟨Nat.pow_pos (by omega), Nat.pow_le_pow_right (by omega) h⟩
theorem round_bd {a t : Nat} (ha : a ≤ 1000000000000) (ht : t ≤ 10000) : 2 * a * t ≤ 20000000000000000 := by
  have := Nat.mul_le_mul (show 2 * a ≤ 2000000000000 by omega) ht
  omega
theorem jbd {n0 j : Nat} (h : n0 ≤ 100000000000000000) (h2 : 0 < n0 / 10 ^ j ∨ j < 5) : j ≤ 50 := by
  rcases Nat.lt_or_ge j 18 with h1 | h1
  · omega
  · have h3 : 10 ^ 18 ≤ 10 ^ j := Nat.pow_le_pow_right (by omega) h1
    have h4 : n0 / 10 ^ j = 0 := Nat.div_eq_of_lt (by omega)
    omega
theorem lowB_next {n j : Nat} : (⟨#[dgB (n / 10 ^ j)]⟩ : ByteArray) ++ lowB n j = lowB n (j + 1) := by rw [lowB_front]; rfl

set_option maxRecDepth 100000 in
set_option maxHeartbeats 1000000 in
theorem l3Digits_any (n0 least : Nat) (w : World) (hn0 : n0 ≤ 100000000000000000) (hle : 1 ≤ least ∧ least ≤ 5) :
    Calls Tryd.prog 54 #[.int .i64 ((n0 : Nat) : Int), .int .i64 ((least : Nat) : Int)] w fun e w' => ∃ (s : ByteArray) (j : Nat), e = .returned (.string s) ∧ s = lowB n0 j ∧ Below w.heap.size w w' ∧ least ≤ j ∧ n0 / 10 ^ j = 0 ∧ (j = least ∨ 0 < n0 / 10 ^ (j - 1)) ∧ j ≤ 100 := by
  go_enter Tryd.func54, Tryd.ntmps54
  refine wp_seq_k (fun K1 h1 => ?_)
  refine W.region_quiet [(0, false)] (by kernel_rfl) ?_
  refine W.as (v := .string (⟨#[]⟩ : ByteArray)) (h := ?_)
  refine W.endF 25 [(0, .int .i64 ((n0 : Nat) : Int)), (1, .int .i64 ((least : Nat) : Int)), (4, .string (⟨#[]⟩ : ByteArray))] (fun U1 => ?_)
  refine h1 _ _ ?_
  refine wp_seq_k (fun K2 h2 => ?_)
  refine W.region_quiet [(0, false)] (by kernel_rfl) ?_
  refine W.as (v := .string (⟨#[]⟩ : ByteArray)) (h := ?_)
  refine W.endF 25 [(0, .int .i64 ((n0 : Nat) : Int)), (1, .int .i64 ((least : Nat) : Int)), (4, .string (⟨#[]⟩ : ByteArray)), (5, .string (⟨#[]⟩ : ByteArray))] (fun U2 => ?_)
  refine h2 _ _ ?_
  refine wp_seq_k (fun K3 h3 => ?_)
  refine wp_block ?_
  refine loopK (fun am0 aa0 wl0 => ∃ (j : Nat) (m : Nat) (s : ByteArray) (U0 : Nat → Value), aa0 = ⟨(fr U0 [(0, .int .i64 ((m : Nat) : Int)), (1, .int .i64 ((least : Nat) : Int)), (4, .string (⟨#[]⟩ : ByteArray)), (5, .string s)] 25 0).toArray, []⟩ ∧ (am0 = m + (least - j)) ∧ (n0 / 10 ^ j = m) ∧ (s = lowB n0 j) ∧ (s.size = j) ∧ (j ≤ 100) ∧ (j ≤ least ∨ 0 < n0 / 10 ^ (j - 1)) ∧ (m ≤ n0) ∧ (Below w.heap.size w wl0)) (n0 + (least - 0)) ?_ ?_
  · exact ⟨0, n0, (⟨#[]⟩ : ByteArray), (fun iU9 => lk [(0, .int .i64 ((n0 : Nat) : Int)), (1, .int .i64 ((least : Nat) : Int)), (4, .string (⟨#[]⟩ : ByteArray)), (5, .string (⟨#[]⟩ : ByteArray))] iU9 (U2 iU9)), (by kernel_rfl), rfl, (by rw [Nat.pow_zero, Nat.div_one]), rfl, rfl, (by omega), (by omega), (by omega), (Below.refl _ _)⟩
  rintro am0 aa0 wl0 K4 h4 ⟨j, m, s, U0, rfl, rfl, hm9, hs9, hsz, hj9, hl9, hmb, c3⟩
  refine wp_seq_k (fun K5 h5 => ?_)
  refine wp_seq_k (fun K6 h6 => ?_)
  refine W.region_quiet [(0, false), (1, false), (2, false), (3, false), (4, false), (5, false), (6, false), (7, false)] (by kernel_rfl) ?_
  refine W.mv (v := .int .i64 ((m : Nat) : Int)) (h := ?_)
  by_cases q4 : (((m : Nat) : Int) : Int) > (0 : Int)
  · refine W.q (v := .bool true) (hr := (r_gtr (m := ((m : Nat) : Int)) (n := 0) rfl (by kernel_rfl) (by kernel_rfl) (decide_eq_true q4))) (h := ?_)
    refine W.mv (v := .bool true) (h := ?_)
    refine W.sp rfl (h := ?_)
    refine W.sp rfl (h := ?_)
    refine W.sp rfl (h := ?_)
    refine W.sp rfl (h := ?_)
    refine W.q (v := .bool true) (hr := (r_pick (b := true) rfl (by kernel_rfl) (by kernel_rfl))) (h := ?_)
    refine W.endF 25 [(0, .int .i64 ((m : Nat) : Int)), (1, .int .i64 ((least : Nat) : Int)), (4, .string (⟨#[]⟩ : ByteArray)), (5, .string s), (13, .bool true)] (fun U5 => ?_)
    refine h6 _ _ ?_
    refine wp_cond_true (by kernel_rfl) ?_
    refine wp_skip ?_
    refine h5 _ _ ?_
    refine wp_block ?_
    refine wp_seq_k (fun K7 h7 => ?_)
    refine W.region_plain (row := none) [(0, false), (1, false), (2, false), (3, false), (4, true), (5, true), (6, false), (7, false), (8, false)] (by kernel_rfl) ?_
    have s6 := SG.self wl0 none
    refine W.mv (v := .int .i64 ((m : Nat) : Int)) (h := ?_)
    refine W.q (v := .int .i64 ((m % 10 : Nat) : Int)) (hr := (r_remK (k := .i64) (m := ((m : Nat) : Int)) (n := 10) (z := ((m % 10 : Nat) : Int)) rfl (by kernel_rfl) (by kernel_rfl) (by omega) (rfl))) (h := ?_)
    refine W.q (v := .int .i64 (48 + ((m % 10 : Nat) : Int))) (hr := (r_add (m := 48) (n := ((m % 10 : Nat) : Int)) (z := 48 + ((m % 10 : Nat) : Int)) rfl (by kernel_rfl) (by kernel_rfl) (rfl) (by omega))) (h := ?_)
    refine W.q (v := .int .u8 (((dgB m).toNat : Nat) : Int)) (hr := (r_conv (k := .i64) (k' := .u8) (n := 48 + ((m % 10 : Nat) : Int)) (m := (((dgB m).toNat : Nat) : Int)) rfl (by kernel_rfl) (by kernel_rfl) (by kernel_rfl) (dgB_wrap m))) (h := ?_)
    refine W.sn (fun b => .slice (some ⟨b, 0, none⟩) 1 1) #[.int .u8 (((dgB m).toNat : Nat) : Int)] 5 s6 rfl (by kernel_rfl) rfl (fun _ => by kernel_rfl) (fun b7 w8 hb9 k10 x11 s12 => ?_)
    have lo13 : w.heap.size ≤ b7 := by have := ((SG.belowR c3 s6 (fun kq e => by cases e))).size; omega
    refine W.slq (v := .string (⟨#[dgB m]⟩ : ByteArray)) s12 rfl (r_bytes1 (c := 1) (x := dgB m) rfl (by kernel_rfl) (by kernel_rfl) (by kernel_rfl) x11) (by kernel_rfl) rfl ?_
    refine W.mv (v := .string s) (h := ?_)
    refine W.q (v := .string ((⟨#[dgB m]⟩ : ByteArray) ++ s)) (hr := (r_addS (s := (⟨#[dgB m]⟩ : ByteArray)) (r := s) rfl (by kernel_rfl) (by kernel_rfl) (by rw [size1]; omega))) (h := ?_)
    refine W.as (v := .string ((⟨#[dgB m]⟩ : ByteArray) ++ s)) (h := ?_)
    refine W.endF 25 [(0, .int .i64 ((m : Nat) : Int)), (1, .int .i64 ((least : Nat) : Int)), (4, .string (⟨#[]⟩ : ByteArray)), (5, .string ((⟨#[dgB m]⟩ : ByteArray) ++ s)), (13, .bool true)] (fun U14 => ?_)
    have c15 := (SG.belowR c3 s12 (fun kq e => by cases e))
    refine h7 _ _ ?_
    refine W.region_quiet [(0, false), (1, false), (2, false)] (by kernel_rfl) ?_
    refine W.mv (v := .int .i64 ((m : Nat) : Int)) (h := ?_)
    refine W.q (v := .int .i64 ((m / 10 : Nat) : Int)) (hr := (r_quoK (k := .i64) (m := ((m : Nat) : Int)) (n := 10) (z := ((m / 10 : Nat) : Int)) rfl (by kernel_rfl) (by kernel_rfl) (by omega) (by rw [show Int.tdiv ((m : Nat) : Int) 10 = ((m / 10 : Nat) : Int) from rfl]; exact wrap_i64 (by omega) (by omega)))) (h := ?_)
    refine W.as (v := .int .i64 ((m / 10 : Nat) : Int)) (h := ?_)
    refine W.endF 25 [(0, .int .i64 ((m / 10 : Nat) : Int)), (1, .int .i64 ((least : Nat) : Int)), (4, .string (⟨#[]⟩ : ByteArray)), (5, .string ((⟨#[dgB m]⟩ : ByteArray) ++ s)), (13, .bool true)] (fun U16 => ?_)
    exact h4 _ _ _ (by omega : (m / 10 + (least - (j + 1))) < _) ⟨j + 1, m / 10, ((⟨#[dgB m]⟩ : ByteArray) ++ s), (fun iU9 => lk [(0, .int .i64 ((m / 10 : Nat) : Int)), (1, .int .i64 ((least : Nat) : Int)), (4, .string (⟨#[]⟩ : ByteArray)), (5, .string ((⟨#[dgB m]⟩ : ByteArray) ++ s)), (13, .bool true)] iU9 (U16 iU9)), (by kernel_rfl), rfl, (by rw [Nat.pow_succ, ← Nat.div_div_eq_div_mul, hm9]), (by rw [hs9, ← hm9]; exact lowB_next), (by rw [ByteArray.size_append, size1]; omega), by have h8 := jbd (j := j) hn0 (by rw [hm9]; omega); omega, (by rw [Nat.add_sub_cancel, hm9]; omega), (by omega), c15⟩
  · refine W.q (v := .bool false) (hr := (r_gtr (m := ((m : Nat) : Int)) (n := 0) rfl (by kernel_rfl) (by kernel_rfl) (decide_eq_false q4))) (h := ?_)
    refine W.mv (v := .bool false) (h := ?_)
    refine W.mv (v := .string s) (h := ?_)
    refine W.q (v := .int .i64 ((s.size : Nat) : Int)) (hr := (r_lenS (s := s) rfl (by kernel_rfl) (by kernel_rfl))) (h := ?_)
    refine W.mv (v := .int .i64 ((least : Nat) : Int)) (h := ?_)
    by_cases q17 : (((s.size : Nat) : Int) : Int) < (((least : Nat) : Int) : Int)
    · refine W.q (v := .bool true) (hr := (r_lss (m := ((s.size : Nat) : Int)) (n := ((least : Nat) : Int)) rfl (by kernel_rfl) (by kernel_rfl) (decide_eq_true q17))) (h := ?_)
      refine W.q (v := .bool true) (hr := (r_pick (b := false) rfl (by kernel_rfl) (by kernel_rfl))) (h := ?_)
      refine W.endF 25 [(0, .int .i64 ((m : Nat) : Int)), (1, .int .i64 ((least : Nat) : Int)), (4, .string (⟨#[]⟩ : ByteArray)), (5, .string s), (13, .bool true)] (fun U18 => ?_)
      refine h6 _ _ ?_
      refine wp_cond_true (by kernel_rfl) ?_
      refine wp_skip ?_
      refine h5 _ _ ?_
      refine wp_block ?_
      refine wp_seq_k (fun K8 h8 => ?_)
      refine W.region_plain (row := none) [(0, false), (1, false), (2, false), (3, false), (4, true), (5, true), (6, false), (7, false), (8, false)] (by kernel_rfl) ?_
      have s19 := SG.self wl0 none
      refine W.mv (v := .int .i64 ((m : Nat) : Int)) (h := ?_)
      refine W.q (v := .int .i64 ((m % 10 : Nat) : Int)) (hr := (r_remK (k := .i64) (m := ((m : Nat) : Int)) (n := 10) (z := ((m % 10 : Nat) : Int)) rfl (by kernel_rfl) (by kernel_rfl) (by omega) (rfl))) (h := ?_)
      refine W.q (v := .int .i64 (48 + ((m % 10 : Nat) : Int))) (hr := (r_add (m := 48) (n := ((m % 10 : Nat) : Int)) (z := 48 + ((m % 10 : Nat) : Int)) rfl (by kernel_rfl) (by kernel_rfl) (rfl) (by omega))) (h := ?_)
      refine W.q (v := .int .u8 (((dgB m).toNat : Nat) : Int)) (hr := (r_conv (k := .i64) (k' := .u8) (n := 48 + ((m % 10 : Nat) : Int)) (m := (((dgB m).toNat : Nat) : Int)) rfl (by kernel_rfl) (by kernel_rfl) (by kernel_rfl) (dgB_wrap m))) (h := ?_)
      refine W.sn (fun b => .slice (some ⟨b, 0, none⟩) 1 1) #[.int .u8 (((dgB m).toNat : Nat) : Int)] 5 s19 rfl (by kernel_rfl) rfl (fun _ => by kernel_rfl) (fun b20 w21 hb22 k23 x24 s25 => ?_)
      have lo26 : w.heap.size ≤ b20 := by have := ((SG.belowR c3 s19 (fun kq e => by cases e))).size; omega
      refine W.slq (v := .string (⟨#[dgB m]⟩ : ByteArray)) s25 rfl (r_bytes1 (c := 1) (x := dgB m) rfl (by kernel_rfl) (by kernel_rfl) (by kernel_rfl) x24) (by kernel_rfl) rfl ?_
      refine W.mv (v := .string s) (h := ?_)
      refine W.q (v := .string ((⟨#[dgB m]⟩ : ByteArray) ++ s)) (hr := (r_addS (s := (⟨#[dgB m]⟩ : ByteArray)) (r := s) rfl (by kernel_rfl) (by kernel_rfl) (by rw [size1]; omega))) (h := ?_)
      refine W.as (v := .string ((⟨#[dgB m]⟩ : ByteArray) ++ s)) (h := ?_)
      refine W.endF 25 [(0, .int .i64 ((m : Nat) : Int)), (1, .int .i64 ((least : Nat) : Int)), (4, .string (⟨#[]⟩ : ByteArray)), (5, .string ((⟨#[dgB m]⟩ : ByteArray) ++ s)), (13, .bool true)] (fun U27 => ?_)
      have c28 := (SG.belowR c3 s25 (fun kq e => by cases e))
      refine h8 _ _ ?_
      refine W.region_quiet [(0, false), (1, false), (2, false)] (by kernel_rfl) ?_
      refine W.mv (v := .int .i64 ((m : Nat) : Int)) (h := ?_)
      refine W.q (v := .int .i64 ((m / 10 : Nat) : Int)) (hr := (r_quoK (k := .i64) (m := ((m : Nat) : Int)) (n := 10) (z := ((m / 10 : Nat) : Int)) rfl (by kernel_rfl) (by kernel_rfl) (by omega) (by rw [show Int.tdiv ((m : Nat) : Int) 10 = ((m / 10 : Nat) : Int) from rfl]; exact wrap_i64 (by omega) (by omega)))) (h := ?_)
      refine W.as (v := .int .i64 ((m / 10 : Nat) : Int)) (h := ?_)
      refine W.endF 25 [(0, .int .i64 ((m / 10 : Nat) : Int)), (1, .int .i64 ((least : Nat) : Int)), (4, .string (⟨#[]⟩ : ByteArray)), (5, .string ((⟨#[dgB m]⟩ : ByteArray) ++ s)), (13, .bool true)] (fun U29 => ?_)
      exact h4 _ _ _ (by omega : (m / 10 + (least - (j + 1))) < _) ⟨j + 1, m / 10, ((⟨#[dgB m]⟩ : ByteArray) ++ s), (fun iU9 => lk [(0, .int .i64 ((m / 10 : Nat) : Int)), (1, .int .i64 ((least : Nat) : Int)), (4, .string (⟨#[]⟩ : ByteArray)), (5, .string ((⟨#[dgB m]⟩ : ByteArray) ++ s)), (13, .bool true)] iU9 (U29 iU9)), (by kernel_rfl), rfl, (by rw [Nat.pow_succ, ← Nat.div_div_eq_div_mul, hm9]), (by rw [hs9, ← hm9]; exact lowB_next), (by rw [ByteArray.size_append, size1]; omega), by have h8 := jbd (j := j) hn0 (by rw [hm9]; omega); omega, (by rw [Nat.add_sub_cancel, hm9]; omega), (by omega), c28⟩
    · refine W.q (v := .bool false) (hr := (r_lss (m := ((s.size : Nat) : Int)) (n := ((least : Nat) : Int)) rfl (by kernel_rfl) (by kernel_rfl) (decide_eq_false q17))) (h := ?_)
      refine W.q (v := .bool false) (hr := (r_pick (b := false) rfl (by kernel_rfl) (by kernel_rfl))) (h := ?_)
      refine W.endF 25 [(0, .int .i64 ((m : Nat) : Int)), (1, .int .i64 ((least : Nat) : Int)), (4, .string (⟨#[]⟩ : ByteArray)), (5, .string s), (13, .bool false)] (fun U30 => ?_)
      refine h6 _ _ ?_
      refine wp_cond_false (by kernel_rfl) ?_
      refine wp_exit ?_
      refine h3 _ _ ?_
      refine wp_seq_k (fun K9 h9 => ?_)
      refine W.region_quiet [(0, false), (1, false)] (by kernel_rfl) ?_
      refine W.mv (v := .string s) (h := ?_)
      refine W.as (v := .string s) (h := ?_)
      refine W.endF 25 [(0, .int .i64 ((m : Nat) : Int)), (1, .int .i64 ((least : Nat) : Int)), (4, .string s), (5, .string s), (13, .bool false)] (fun U31 => ?_)
      refine h9 _ _ ?_
      refine wp_ret ?_
      try simp only [Exit.then]
      refine ret1 (v := .string s) rfl (by kernel_rfl) ?_
      exact ⟨_, j, rfl, by rw [hs9], c3, by omega, by rw [hm9]; omega, by rcases hl9 with h9 | h9; exact .inl (by omega); exact .inr h9, by omega⟩

set_option maxRecDepth 100000 in
set_option maxHeartbeats 1000000 in
theorem DecimalText_spec_no0 (a b c : Int) (w : World) (hk1 : inB a 0 1000000000000 = false) :
    Calls Tryd.prog 23 #[.int .i64 a, .int .i64 b, .int .i64 c] w fun e w' => e = .returned (.tuple #[.string (DecimalText_v0 a b c), .bool (DecimalText_v1 a b c)]) ∧ Below w.heap.size w w' := by
  have hdn : inB a 0 1000000000000 = false ∨ inB b 1 1000000 = false ∨ inB c 0 4 = false := .inl hk1
  go_enter Tryd.func23, Tryd.ntmps23
  refine wp_seq_k (fun K1 h1 => ?_)
  refine W.region_quiet [(0, false), (1, false)] (by kernel_rfl) ?_
  refine W.as (v := .string (⟨#[]⟩ : ByteArray)) (h := ?_)
  refine W.as (v := .bool false) (h := ?_)
  refine W.endF 62 [(0, .int .i64 a), (1, .int .i64 b), (2, .int .i64 c), (6, .string (⟨#[]⟩ : ByteArray)), (7, .bool false)] (fun U1 => ?_)
  refine h1 _ _ ?_
  refine wp_seq_k (fun K2 h2 => ?_)
  refine wp_seq_k (fun K3 h3 => ?_)
  refine W.region_plain (row := none) [(0, false), (1, true), (2, false), (3, false), (4, false), (5, true), (6, false), (7, false), (8, false), (9, false), (10, true), (11, false), (12, false)] (by kernel_rfl) ?_
  have s2 := SG.self w none
  refine W.mv (v := .int .i64 a) (h := ?_)
  refine W.sc (vs := [.int .i64 a, .int .i64 0, .int .i64 1000000000000]) rfl rfl (by kernel_rfl) (by kernel_rfl) (by kernel_rfl) rfl (l1In_any a 0 1000000000000 _) ?_
  rintro e w' ⟨rfl, rfl⟩
  refine ⟨_, rfl, s2, ?_⟩
  have q5 : (inB a 0 1000000000000) = false := hk1
  rw [q5]
  refine W.q (v := .bool true) (hr := (r_not (b := false) rfl (by kernel_rfl) rfl)) (h := ?_)
  refine W.mv (v := .bool true) (h := ?_)
  refine W.sp s2 (h := ?_)
  refine W.sp s2 (h := ?_)
  refine W.sp s2 (h := ?_)
  refine W.q (v := .bool true) (hr := (r_pick (b := true) rfl (by kernel_rfl) (by kernel_rfl))) (h := ?_)
  refine W.mv (v := .bool true) (h := ?_)
  refine W.sp s2 (h := ?_)
  refine W.sp s2 (h := ?_)
  refine W.sp s2 (h := ?_)
  refine W.q (v := .bool true) (hr := (r_pick (b := true) rfl (by kernel_rfl) (by kernel_rfl))) (h := ?_)
  refine W.endF 62 [(0, .int .i64 a), (1, .int .i64 b), (2, .int .i64 c), (6, .string (⟨#[]⟩ : ByteArray)), (7, .bool false), (24, .bool true)] (fun U6 => ?_)
  have c7 := (SG.belowR (Below.refl _ _) s2 (fun kq e => by cases e))
  refine h3 _ _ ?_
  refine wp_cond_true (by kernel_rfl) ?_
  refine wp_seq_k (fun K4 h4 => ?_)
  refine W.region_quiet [(0, false), (1, false)] (by kernel_rfl) ?_
  refine W.as (v := .string (⟨#[]⟩ : ByteArray)) (h := ?_)
  refine W.as (v := .bool false) (h := ?_)
  refine W.endF 62 [(0, .int .i64 a), (1, .int .i64 b), (2, .int .i64 c), (6, .string (⟨#[]⟩ : ByteArray)), (7, .bool false), (24, .bool true)] (fun U8 => ?_)
  refine h4 _ _ ?_
  refine wp_ret ?_
  try simp only [Exit.then]
  refine ret2 (v := .string (⟨#[]⟩ : ByteArray)) (x := .bool false) rfl (by kernel_rfl) (by kernel_rfl) ?_
  obtain ⟨e1, e2⟩ := dec_no hdn
  exact ⟨by rw [e1, e2], c7⟩

set_option maxRecDepth 100000 in
set_option maxHeartbeats 1000000 in
theorem DecimalText_spec_no1 (a b c : Int) (w : World) (hk1 : inB a 0 1000000000000 = true) (hk2 : inB b 1 1000000 = false) :
    Calls Tryd.prog 23 #[.int .i64 a, .int .i64 b, .int .i64 c] w fun e w' => e = .returned (.tuple #[.string (DecimalText_v0 a b c), .bool (DecimalText_v1 a b c)]) ∧ Below w.heap.size w w' := by
  have hdn : inB a 0 1000000000000 = false ∨ inB b 1 1000000 = false ∨ inB c 0 4 = false := .inr (.inl hk2)
  go_enter Tryd.func23, Tryd.ntmps23
  refine wp_seq_k (fun K1 h1 => ?_)
  refine W.region_quiet [(0, false), (1, false)] (by kernel_rfl) ?_
  refine W.as (v := .string (⟨#[]⟩ : ByteArray)) (h := ?_)
  refine W.as (v := .bool false) (h := ?_)
  refine W.endF 62 [(0, .int .i64 a), (1, .int .i64 b), (2, .int .i64 c), (6, .string (⟨#[]⟩ : ByteArray)), (7, .bool false)] (fun U1 => ?_)
  refine h1 _ _ ?_
  refine wp_seq_k (fun K2 h2 => ?_)
  refine wp_seq_k (fun K3 h3 => ?_)
  refine W.region_plain (row := none) [(0, false), (1, true), (2, false), (3, false), (4, false), (5, true), (6, false), (7, false), (8, false), (9, false), (10, true), (11, false), (12, false)] (by kernel_rfl) ?_
  have s2 := SG.self w none
  refine W.mv (v := .int .i64 a) (h := ?_)
  refine W.sc (vs := [.int .i64 a, .int .i64 0, .int .i64 1000000000000]) rfl rfl (by kernel_rfl) (by kernel_rfl) (by kernel_rfl) rfl (l1In_any a 0 1000000000000 _) ?_
  rintro e w' ⟨rfl, rfl⟩
  refine ⟨_, rfl, s2, ?_⟩
  have q5 : (inB a 0 1000000000000) = true := hk1
  rw [q5]
  refine W.q (v := .bool false) (hr := (r_not (b := true) rfl (by kernel_rfl) rfl)) (h := ?_)
  refine W.mv (v := .bool false) (h := ?_)
  refine W.mv (v := .int .i64 b) (h := ?_)
  refine W.sc (vs := [.int .i64 b, .int .i64 1, .int .i64 1000000]) rfl rfl (by kernel_rfl) (by kernel_rfl) (by kernel_rfl) rfl (l1In_any b 1 1000000 _) ?_
  rintro e w' ⟨rfl, rfl⟩
  refine ⟨_, rfl, s2, ?_⟩
  have q8 : (inB b 1 1000000) = false := hk2
  rw [q8]
  refine W.q (v := .bool true) (hr := (r_not (b := false) rfl (by kernel_rfl) rfl)) (h := ?_)
  refine W.q (v := .bool true) (hr := (r_pick (b := false) rfl (by kernel_rfl) (by kernel_rfl))) (h := ?_)
  refine W.mv (v := .bool true) (h := ?_)
  refine W.sp s2 (h := ?_)
  refine W.sp s2 (h := ?_)
  refine W.sp s2 (h := ?_)
  refine W.q (v := .bool true) (hr := (r_pick (b := true) rfl (by kernel_rfl) (by kernel_rfl))) (h := ?_)
  refine W.endF 62 [(0, .int .i64 a), (1, .int .i64 b), (2, .int .i64 c), (6, .string (⟨#[]⟩ : ByteArray)), (7, .bool false), (24, .bool true)] (fun U9 => ?_)
  have c10 := (SG.belowR (Below.refl _ _) s2 (fun kq e => by cases e))
  refine h3 _ _ ?_
  refine wp_cond_true (by kernel_rfl) ?_
  refine wp_seq_k (fun K4 h4 => ?_)
  refine W.region_quiet [(0, false), (1, false)] (by kernel_rfl) ?_
  refine W.as (v := .string (⟨#[]⟩ : ByteArray)) (h := ?_)
  refine W.as (v := .bool false) (h := ?_)
  refine W.endF 62 [(0, .int .i64 a), (1, .int .i64 b), (2, .int .i64 c), (6, .string (⟨#[]⟩ : ByteArray)), (7, .bool false), (24, .bool true)] (fun U11 => ?_)
  refine h4 _ _ ?_
  refine wp_ret ?_
  try simp only [Exit.then]
  refine ret2 (v := .string (⟨#[]⟩ : ByteArray)) (x := .bool false) rfl (by kernel_rfl) (by kernel_rfl) ?_
  obtain ⟨e1, e2⟩ := dec_no hdn
  exact ⟨by rw [e1, e2], c10⟩

set_option maxRecDepth 100000 in
set_option maxHeartbeats 1000000 in
theorem DecimalText_spec_no2 (a b c : Int) (w : World) (hk1 : inB a 0 1000000000000 = true) (hk2 : inB b 1 1000000 = true) (hk3 : inB c 0 4 = false) :
    Calls Tryd.prog 23 #[.int .i64 a, .int .i64 b, .int .i64 c] w fun e w' => e = .returned (.tuple #[.string (DecimalText_v0 a b c), .bool (DecimalText_v1 a b c)]) ∧ Below w.heap.size w w' := by
  have hdn : inB a 0 1000000000000 = false ∨ inB b 1 1000000 = false ∨ inB c 0 4 = false := .inr (.inr hk3)
  go_enter Tryd.func23, Tryd.ntmps23
  refine wp_seq_k (fun K1 h1 => ?_)
  refine W.region_quiet [(0, false), (1, false)] (by kernel_rfl) ?_
  refine W.as (v := .string (⟨#[]⟩ : ByteArray)) (h := ?_)
  refine W.as (v := .bool false) (h := ?_)
  refine W.endF 62 [(0, .int .i64 a), (1, .int .i64 b), (2, .int .i64 c), (6, .string (⟨#[]⟩ : ByteArray)), (7, .bool false)] (fun U1 => ?_)
  refine h1 _ _ ?_
  refine wp_seq_k (fun K2 h2 => ?_)
  refine wp_seq_k (fun K3 h3 => ?_)
  refine W.region_plain (row := none) [(0, false), (1, true), (2, false), (3, false), (4, false), (5, true), (6, false), (7, false), (8, false), (9, false), (10, true), (11, false), (12, false)] (by kernel_rfl) ?_
  have s2 := SG.self w none
  refine W.mv (v := .int .i64 a) (h := ?_)
  refine W.sc (vs := [.int .i64 a, .int .i64 0, .int .i64 1000000000000]) rfl rfl (by kernel_rfl) (by kernel_rfl) (by kernel_rfl) rfl (l1In_any a 0 1000000000000 _) ?_
  rintro e w' ⟨rfl, rfl⟩
  refine ⟨_, rfl, s2, ?_⟩
  have q5 : (inB a 0 1000000000000) = true := hk1
  rw [q5]
  refine W.q (v := .bool false) (hr := (r_not (b := true) rfl (by kernel_rfl) rfl)) (h := ?_)
  refine W.mv (v := .bool false) (h := ?_)
  refine W.mv (v := .int .i64 b) (h := ?_)
  refine W.sc (vs := [.int .i64 b, .int .i64 1, .int .i64 1000000]) rfl rfl (by kernel_rfl) (by kernel_rfl) (by kernel_rfl) rfl (l1In_any b 1 1000000 _) ?_
  rintro e w' ⟨rfl, rfl⟩
  refine ⟨_, rfl, s2, ?_⟩
  have q8 : (inB b 1 1000000) = true := hk2
  rw [q8]
  refine W.q (v := .bool false) (hr := (r_not (b := true) rfl (by kernel_rfl) rfl)) (h := ?_)
  refine W.q (v := .bool false) (hr := (r_pick (b := false) rfl (by kernel_rfl) (by kernel_rfl))) (h := ?_)
  refine W.mv (v := .bool false) (h := ?_)
  refine W.mv (v := .int .i64 c) (h := ?_)
  refine W.sc (vs := [.int .i64 c, .int .i64 0, .int .i64 4]) rfl rfl (by kernel_rfl) (by kernel_rfl) (by kernel_rfl) rfl (l1In_any c 0 4 _) ?_
  rintro e w' ⟨rfl, rfl⟩
  refine ⟨_, rfl, s2, ?_⟩
  have q11 : (inB c 0 4) = false := hk3
  rw [q11]
  refine W.q (v := .bool true) (hr := (r_not (b := false) rfl (by kernel_rfl) rfl)) (h := ?_)
  refine W.q (v := .bool true) (hr := (r_pick (b := false) rfl (by kernel_rfl) (by kernel_rfl))) (h := ?_)
  refine W.endF 62 [(0, .int .i64 a), (1, .int .i64 b), (2, .int .i64 c), (6, .string (⟨#[]⟩ : ByteArray)), (7, .bool false), (24, .bool true)] (fun U12 => ?_)
  have c13 := (SG.belowR (Below.refl _ _) s2 (fun kq e => by cases e))
  refine h3 _ _ ?_
  refine wp_cond_true (by kernel_rfl) ?_
  refine wp_seq_k (fun K4 h4 => ?_)
  refine W.region_quiet [(0, false), (1, false)] (by kernel_rfl) ?_
  refine W.as (v := .string (⟨#[]⟩ : ByteArray)) (h := ?_)
  refine W.as (v := .bool false) (h := ?_)
  refine W.endF 62 [(0, .int .i64 a), (1, .int .i64 b), (2, .int .i64 c), (6, .string (⟨#[]⟩ : ByteArray)), (7, .bool false), (24, .bool true)] (fun U14 => ?_)
  refine h4 _ _ ?_
  refine wp_ret ?_
  try simp only [Exit.then]
  refine ret2 (v := .string (⟨#[]⟩ : ByteArray)) (x := .bool false) rfl (by kernel_rfl) (by kernel_rfl) ?_
  obtain ⟨e1, e2⟩ := dec_no hdn
  exact ⟨by rw [e1, e2], c13⟩

set_option maxRecDepth 100000 in
set_option maxHeartbeats 1000000 in
theorem DecimalText_spec_yes (a b c : Nat) (w : World) (ha : a ≤ 1000000000000) (hb : 1 ≤ b ∧ b ≤ 1000000) (hc : c ≤ 4) :
    Calls Tryd.prog 23 #[.int .i64 ((a : Nat) : Int), .int .i64 ((b : Nat) : Int), .int .i64 ((c : Nat) : Int)] w fun e w' => e = .returned (.tuple #[.string (DecimalText_v0 a b c), .bool (DecimalText_v1 a b c)]) ∧ Below w.heap.size w w' := by
  go_enter Tryd.func23, Tryd.ntmps23
  refine wp_seq_k (fun K1 h1 => ?_)
  refine W.region_quiet [(0, false), (1, false)] (by kernel_rfl) ?_
  refine W.as (v := .string (⟨#[]⟩ : ByteArray)) (h := ?_)
  refine W.as (v := .bool false) (h := ?_)
  refine W.endF 62 [(0, .int .i64 ((a : Nat) : Int)), (1, .int .i64 ((b : Nat) : Int)), (2, .int .i64 ((c : Nat) : Int)), (6, .string (⟨#[]⟩ : ByteArray)), (7, .bool false)] (fun U1 => ?_)
  refine h1 _ _ ?_
  refine wp_seq_k (fun K2 h2 => ?_)
  refine wp_seq_k (fun K3 h3 => ?_)
  refine W.region_plain (row := none) [(0, false), (1, true), (2, false), (3, false), (4, false), (5, true), (6, false), (7, false), (8, false), (9, false), (10, true), (11, false), (12, false)] (by kernel_rfl) ?_
  have s2 := SG.self w none
  refine W.mv (v := .int .i64 ((a : Nat) : Int)) (h := ?_)
  refine W.sc (vs := [.int .i64 ((a : Nat) : Int), .int .i64 0, .int .i64 1000000000000]) rfl rfl (by kernel_rfl) (by kernel_rfl) (by kernel_rfl) rfl (l1In_any ((a : Nat) : Int) 0 1000000000000 _) ?_
  rintro e w' ⟨rfl, rfl⟩
  refine ⟨_, rfl, s2, ?_⟩
  have q5 : (inB ((a : Nat) : Int) 0 1000000000000) = true := inB_yes.2 ⟨by omega, by omega⟩
  rw [q5]
  refine W.q (v := .bool false) (hr := (r_not (b := true) rfl (by kernel_rfl) rfl)) (h := ?_)
  refine W.mv (v := .bool false) (h := ?_)
  refine W.mv (v := .int .i64 ((b : Nat) : Int)) (h := ?_)
  refine W.sc (vs := [.int .i64 ((b : Nat) : Int), .int .i64 1, .int .i64 1000000]) rfl rfl (by kernel_rfl) (by kernel_rfl) (by kernel_rfl) rfl (l1In_any ((b : Nat) : Int) 1 1000000 _) ?_
  rintro e w' ⟨rfl, rfl⟩
  refine ⟨_, rfl, s2, ?_⟩
  have q8 : (inB ((b : Nat) : Int) 1 1000000) = true := inB_yes.2 ⟨by omega, by omega⟩
  rw [q8]
  refine W.q (v := .bool false) (hr := (r_not (b := true) rfl (by kernel_rfl) rfl)) (h := ?_)
  refine W.q (v := .bool false) (hr := (r_pick (b := false) rfl (by kernel_rfl) (by kernel_rfl))) (h := ?_)
  refine W.mv (v := .bool false) (h := ?_)
  refine W.mv (v := .int .i64 ((c : Nat) : Int)) (h := ?_)
  refine W.sc (vs := [.int .i64 ((c : Nat) : Int), .int .i64 0, .int .i64 4]) rfl rfl (by kernel_rfl) (by kernel_rfl) (by kernel_rfl) rfl (l1In_any ((c : Nat) : Int) 0 4 _) ?_
  rintro e w' ⟨rfl, rfl⟩
  refine ⟨_, rfl, s2, ?_⟩
  have q11 : (inB ((c : Nat) : Int) 0 4) = true := inB_yes.2 ⟨by omega, by omega⟩
  rw [q11]
  refine W.q (v := .bool false) (hr := (r_not (b := true) rfl (by kernel_rfl) rfl)) (h := ?_)
  refine W.q (v := .bool false) (hr := (r_pick (b := false) rfl (by kernel_rfl) (by kernel_rfl))) (h := ?_)
  refine W.endF 62 [(0, .int .i64 ((a : Nat) : Int)), (1, .int .i64 ((b : Nat) : Int)), (2, .int .i64 ((c : Nat) : Int)), (6, .string (⟨#[]⟩ : ByteArray)), (7, .bool false), (24, .bool false)] (fun U12 => ?_)
  have c13 := (SG.belowR (Below.refl _ _) s2 (fun kq e => by cases e))
  refine h3 _ _ ?_
  refine wp_cond_false (by kernel_rfl) ?_
  refine wp_skip ?_
  refine h2 _ _ ?_
  refine wp_seq_k (fun K4 h4 => ?_)
  refine W.region_quiet [(0, false)] (by kernel_rfl) ?_
  refine W.as (v := .int .i64 1) (h := ?_)
  refine W.endF 62 [(0, .int .i64 ((a : Nat) : Int)), (1, .int .i64 ((b : Nat) : Int)), (2, .int .i64 ((c : Nat) : Int)), (6, .string (⟨#[]⟩ : ByteArray)), (7, .bool false), (8, .int .i64 1), (24, .bool false)] (fun U14 => ?_)
  refine h4 _ _ ?_
  refine wp_seq_k (fun K5 h5 => ?_)
  refine wp_seq_k (fun K6 h6 => ?_)
  refine W.region_quiet [(0, false)] (by kernel_rfl) ?_
  refine W.as (v := .int .i64 0) (h := ?_)
  refine W.endF 62 [(0, .int .i64 ((a : Nat) : Int)), (1, .int .i64 ((b : Nat) : Int)), (2, .int .i64 ((c : Nat) : Int)), (6, .string (⟨#[]⟩ : ByteArray)), (7, .bool false), (8, .int .i64 1), (9, .int .i64 0), (24, .bool false)] (fun U15 => ?_)
  refine h6 _ _ ?_
  refine wp_block ?_
  refine loopK (fun am0 aa0 wl0 => ∃ (i : Nat) (t : Nat) (U0 : Nat → Value), aa0 = ⟨(fr U0 [(0, .int .i64 ((a : Nat) : Int)), (1, .int .i64 ((b : Nat) : Int)), (2, .int .i64 ((c : Nat) : Int)), (6, .string (⟨#[]⟩ : ByteArray)), (7, .bool false), (8, .int .i64 ((t : Nat) : Int)), (9, .int .i64 ((i : Nat) : Int)), (24, .bool false)] 62 0).toArray, []⟩ ∧ (am0 = c - i) ∧ (i ≤ c) ∧ (t = 10 ^ i) ∧ (1 ≤ t ∧ t ≤ 10000) ∧ (Below w.heap.size w wl0)) (c - 0) ?_ ?_
  · exact ⟨0, 1, (fun iU9 => lk [(0, .int .i64 ((a : Nat) : Int)), (1, .int .i64 ((b : Nat) : Int)), (2, .int .i64 ((c : Nat) : Int)), (6, .string (⟨#[]⟩ : ByteArray)), (7, .bool false), (8, .int .i64 1), (9, .int .i64 0), (24, .bool false)] iU9 (U15 iU9)), (by kernel_rfl), rfl, (by omega), rfl, (by omega), c13⟩
  rintro am0 aa0 wl0 K7 h7 ⟨i, t, U0, rfl, rfl, hi, htt, htb, c16⟩
  refine wp_seq_k (fun K8 h8 => ?_)
  refine wp_seq_k (fun K9 h9 => ?_)
  refine W.region_quiet [(0, false), (1, false), (2, false)] (by kernel_rfl) ?_
  refine W.mv (v := .int .i64 ((i : Nat) : Int)) (h := ?_)
  refine W.mv (v := .int .i64 ((c : Nat) : Int)) (h := ?_)
  by_cases q17 : (((i : Nat) : Int) : Int) < (((c : Nat) : Int) : Int)
  · refine W.q (v := .bool true) (hr := (r_lss (m := ((i : Nat) : Int)) (n := ((c : Nat) : Int)) rfl (by kernel_rfl) (by kernel_rfl) (decide_eq_true q17))) (h := ?_)
    refine W.endF 62 [(0, .int .i64 ((a : Nat) : Int)), (1, .int .i64 ((b : Nat) : Int)), (2, .int .i64 ((c : Nat) : Int)), (6, .string (⟨#[]⟩ : ByteArray)), (7, .bool false), (8, .int .i64 ((t : Nat) : Int)), (9, .int .i64 ((i : Nat) : Int)), (24, .bool false), (27, .bool true)] (fun U18 => ?_)
    refine h9 _ _ ?_
    refine wp_cond_true (by kernel_rfl) ?_
    refine wp_skip ?_
    refine h8 _ _ ?_
    refine wp_seq_k (fun K10 h10 => ?_)
    refine wp_block ?_
    refine W.region_quiet [(0, false), (1, false), (2, false)] (by kernel_rfl) ?_
    refine W.mv (v := .int .i64 ((t : Nat) : Int)) (h := ?_)
    refine W.q (v := .int .i64 ((10 * t : Nat) : Int)) (hr := (r_mulK (k := .i64) (m := 10) (n := ((t : Nat) : Int)) (z := ((10 * t : Nat) : Int)) rfl (by kernel_rfl) (by kernel_rfl) (by rw [show 10 * ((t : Nat) : Int) = ((10 * t : Nat) : Int) by omega]; exact wrap_i64 (by omega) (by omega)))) (h := ?_)
    refine W.as (v := .int .i64 ((10 * t : Nat) : Int)) (h := ?_)
    refine W.endF 62 [(0, .int .i64 ((a : Nat) : Int)), (1, .int .i64 ((b : Nat) : Int)), (2, .int .i64 ((c : Nat) : Int)), (6, .string (⟨#[]⟩ : ByteArray)), (7, .bool false), (8, .int .i64 ((10 * t : Nat) : Int)), (9, .int .i64 ((i : Nat) : Int)), (24, .bool false), (27, .bool true)] (fun U19 => ?_)
    refine h10 _ _ ?_
    refine W.region_quiet [(0, false), (1, false), (2, false)] (by kernel_rfl) ?_
    refine W.mv (v := .int .i64 ((i : Nat) : Int)) (h := ?_)
    refine W.q (v := .int .i64 ((i + 1 : Nat) : Int)) (hr := (r_add (m := ((i : Nat) : Int)) (n := 1) (z := ((i + 1 : Nat) : Int)) rfl (by kernel_rfl) (by kernel_rfl) (by omega) (by omega))) (h := ?_)
    refine W.as (v := .int .i64 ((i + 1 : Nat) : Int)) (h := ?_)
    refine W.endF 62 [(0, .int .i64 ((a : Nat) : Int)), (1, .int .i64 ((b : Nat) : Int)), (2, .int .i64 ((c : Nat) : Int)), (6, .string (⟨#[]⟩ : ByteArray)), (7, .bool false), (8, .int .i64 ((10 * t : Nat) : Int)), (9, .int .i64 ((i + 1 : Nat) : Int)), (24, .bool false), (27, .bool true)] (fun U20 => ?_)
    exact h7 _ _ _ (by omega : (c - (i + 1)) < _) ⟨i + 1, 10 * t, (fun iU9 => lk [(0, .int .i64 ((a : Nat) : Int)), (1, .int .i64 ((b : Nat) : Int)), (2, .int .i64 ((c : Nat) : Int)), (6, .string (⟨#[]⟩ : ByteArray)), (7, .bool false), (8, .int .i64 ((10 * t : Nat) : Int)), (9, .int .i64 ((i + 1 : Nat) : Int)), (24, .bool false), (27, .bool true)] iU9 (U20 iU9)), (by kernel_rfl), rfl, (by omega), (by rw [htt, Nat.pow_succ, Nat.mul_comm]), (by have h9 := pow_le4 (p := i + 1) (by omega); rw [Nat.pow_succ, ← htt] at h9; omega), c16⟩
  · refine W.q (v := .bool false) (hr := (r_lss (m := ((i : Nat) : Int)) (n := ((c : Nat) : Int)) rfl (by kernel_rfl) (by kernel_rfl) (decide_eq_false q17))) (h := ?_)
    refine W.endF 62 [(0, .int .i64 ((a : Nat) : Int)), (1, .int .i64 ((b : Nat) : Int)), (2, .int .i64 ((c : Nat) : Int)), (6, .string (⟨#[]⟩ : ByteArray)), (7, .bool false), (8, .int .i64 ((t : Nat) : Int)), (9, .int .i64 ((i : Nat) : Int)), (24, .bool false), (27, .bool false)] (fun U21 => ?_)
    refine h9 _ _ ?_
    refine wp_cond_false (by kernel_rfl) ?_
    refine wp_exit ?_
    refine h5 _ _ ?_
    refine wp_seq_k (fun K11 h11 => ?_)
    refine W.region_quiet [(0, false), (1, false), (2, false), (3, false), (4, false), (5, false), (6, false), (7, false), (8, false), (9, false)] (by kernel_rfl) ?_
    refine W.mv (v := .int .i64 ((a : Nat) : Int)) (h := ?_)
    refine W.q (v := .int .i64 ((2 * a : Nat) : Int)) (hr := (r_mulK (k := .i64) (m := 2) (n := ((a : Nat) : Int)) (z := ((2 * a : Nat) : Int)) rfl (by kernel_rfl) (by kernel_rfl) (by rw [show 2 * ((a : Nat) : Int) = ((2 * a : Nat) : Int) by omega]; exact wrap_i64 (by omega) (by omega)))) (h := ?_)
    refine W.mv (v := .int .i64 ((t : Nat) : Int)) (h := ?_)
    have hrb := round_bd (a := a) (t := t) (by omega) (by omega)
    refine W.q (v := .int .i64 ((2 * a * t : Nat) : Int)) (hr := (r_mulK (k := .i64) (m := ((2 * a : Nat) : Int)) (n := ((t : Nat) : Int)) (z := ((2 * a * t : Nat) : Int)) rfl (by kernel_rfl) (by kernel_rfl) (by rw [show ((2 * a : Nat) : Int) * ((t : Nat) : Int) = ((2 * a * t : Nat) : Int) from (Int.natCast_mul _ _).symm]; exact wrap_i64 (by omega) (by omega)))) (h := ?_)
    refine W.mv (v := .int .i64 ((b : Nat) : Int)) (h := ?_)
    refine W.q (v := .int .i64 ((2 * a * t + b : Nat) : Int)) (hr := (r_add (m := ((2 * a * t : Nat) : Int)) (n := ((b : Nat) : Int)) (z := ((2 * a * t + b : Nat) : Int)) rfl (by kernel_rfl) (by kernel_rfl) (by omega) (by omega))) (h := ?_)
    refine W.mv (v := .int .i64 ((b : Nat) : Int)) (h := ?_)
    refine W.q (v := .int .i64 ((2 * b : Nat) : Int)) (hr := (r_mulK (k := .i64) (m := 2) (n := ((b : Nat) : Int)) (z := ((2 * b : Nat) : Int)) rfl (by kernel_rfl) (by kernel_rfl) (by rw [show 2 * ((b : Nat) : Int) = ((2 * b : Nat) : Int) by omega]; exact wrap_i64 (by omega) (by omega)))) (h := ?_)
    obtain ⟨nn, hnn⟩ : ∃ nn : Nat, nn = (2 * a * t + b) / (2 * b) := ⟨_, rfl⟩
    have hnb : nn ≤ 2 * a * t + b := by rw [hnn]; exact Nat.div_le_self _ _
    refine W.q (v := .int .i64 ((nn : Nat) : Int)) (hr := (r_quoK (k := .i64) (m := ((2 * a * t + b : Nat) : Int)) (n := ((2 * b : Nat) : Int)) (z := ((nn : Nat) : Int)) rfl (by kernel_rfl) (by kernel_rfl) (by omega) (by rw [show Int.tdiv ((2 * a * t + b : Nat) : Int) ((2 * b : Nat) : Int) = (((2 * a * t + b) / (2 * b) : Nat) : Int) from rfl, ← hnn]; exact wrap_i64 (by omega) (by omega)))) (h := ?_)
    refine W.as (v := .int .i64 ((nn : Nat) : Int)) (h := ?_)
    refine W.endF 62 [(0, .int .i64 ((a : Nat) : Int)), (1, .int .i64 ((b : Nat) : Int)), (2, .int .i64 ((c : Nat) : Int)), (6, .string (⟨#[]⟩ : ByteArray)), (7, .bool false), (8, .int .i64 ((t : Nat) : Int)), (9, .int .i64 ((i : Nat) : Int)), (10, .int .i64 ((nn : Nat) : Int)), (24, .bool false), (27, .bool false)] (fun U22 => ?_)
    refine h11 _ _ ?_
    refine wp_seq_k (fun K12 h12 => ?_)
    refine W.region_plain (row := none) [(0, false), (1, false), (2, false), (3, true), (4, false)] (by kernel_rfl) ?_
    have s23 := SG.self wl0 none
    refine W.mv (v := .int .i64 ((nn : Nat) : Int)) (h := ?_)
    refine W.mv (v := .int .i64 ((c : Nat) : Int)) (h := ?_)
    refine W.q (v := .int .i64 ((c + 1 : Nat) : Int)) (hr := (r_add (m := ((c : Nat) : Int)) (n := 1) (z := ((c + 1 : Nat) : Int)) rfl (by kernel_rfl) (by kernel_rfl) (by omega) (by omega))) (h := ?_)
    refine W.sc (vs := [.int .i64 ((nn : Nat) : Int), .int .i64 ((c + 1 : Nat) : Int)]) rfl rfl (by kernel_rfl) (by kernel_rfl) (by kernel_rfl) rfl (l3Digits_any nn (c + 1) _ (by omega) (by omega)) ?_
    rintro e w25 ⟨s, j, rfl, hs9, b24, hj1, hj2, hj3, hj4⟩
    have s26 := SG.of_below s23 b24
    refine ⟨_, rfl, s26, ?_⟩
    have hsz : s.size = j := by rw [hs9, lowB_size]
    refine W.as (v := .string s) (h := ?_)
    refine W.endF 62 [(0, .int .i64 ((a : Nat) : Int)), (1, .int .i64 ((b : Nat) : Int)), (2, .int .i64 ((c : Nat) : Int)), (6, .string (⟨#[]⟩ : ByteArray)), (7, .bool false), (8, .int .i64 ((t : Nat) : Int)), (9, .int .i64 ((i : Nat) : Int)), (10, .int .i64 ((nn : Nat) : Int)), (11, .string s), (24, .bool false), (27, .bool false)] (fun U27 => ?_)
    have c28 := (SG.belowR c16 s26 (fun kq e => by cases e))
    refine h12 _ _ ?_
    refine wp_seq_k (fun K13 h13 => ?_)
    refine wp_seq_k (fun K14 h14 => ?_)
    refine W.region_quiet [(0, false), (1, false)] (by kernel_rfl) ?_
    refine W.mv (v := .int .i64 ((c : Nat) : Int)) (h := ?_)
    by_cases q29 : (((c : Nat) : Int) : Int) = (0 : Int)
    · refine W.q (v := .bool true) (hr := (r_eql (m := ((c : Nat) : Int)) (n := 0) rfl (by kernel_rfl) (by kernel_rfl) (decide_eq_true q29))) (h := ?_)
      refine W.endF 62 [(0, .int .i64 ((a : Nat) : Int)), (1, .int .i64 ((b : Nat) : Int)), (2, .int .i64 ((c : Nat) : Int)), (6, .string (⟨#[]⟩ : ByteArray)), (7, .bool false), (8, .int .i64 ((t : Nat) : Int)), (9, .int .i64 ((i : Nat) : Int)), (10, .int .i64 ((nn : Nat) : Int)), (11, .string s), (24, .bool false), (27, .bool false), (46, .bool true)] (fun U30 => ?_)
      refine h14 _ _ ?_
      refine wp_cond_true (by kernel_rfl) ?_
      refine wp_seq_k (fun K15 h15 => ?_)
      refine W.region_quiet [(0, false), (1, false), (2, false)] (by kernel_rfl) ?_
      refine W.mv (v := .string s) (h := ?_)
      refine W.as (v := .string s) (h := ?_)
      refine W.as (v := .bool true) (h := ?_)
      refine W.endF 62 [(0, .int .i64 ((a : Nat) : Int)), (1, .int .i64 ((b : Nat) : Int)), (2, .int .i64 ((c : Nat) : Int)), (6, .string s), (7, .bool true), (8, .int .i64 ((t : Nat) : Int)), (9, .int .i64 ((i : Nat) : Int)), (10, .int .i64 ((nn : Nat) : Int)), (11, .string s), (24, .bool false), (27, .bool false), (46, .bool true)] (fun U31 => ?_)
      refine h15 _ _ ?_
      refine wp_ret ?_
      try simp only [Exit.then]
      refine ret2 (v := .string s) (x := .bool true) rfl (by kernel_rfl) (by kernel_rfl) ?_
      have htp : t = 10 ^ c := by rw [htt, show i = c by omega]
      have hrn : nn = roundN a b c := by rw [hnn, htp]; rfl
      obtain ⟨e1, e2⟩ := dec_yes (a := a) (b := b) (c := c) (by omega) (by omega) (by omega)
      have hfin : (s) = decB nn c := by have hc0 : c = 0 := (by omega); rw [hs9, hc0]; exact dec_zero (by omega) hj2 (by rcases hj3 with h9 | h9; exact .inl (by omega); exact .inr h9)
      exact ⟨by rw [e1, e2, ← hrn, ← hfin], c28⟩
    · refine W.q (v := .bool false) (hr := (r_eql (m := ((c : Nat) : Int)) (n := 0) rfl (by kernel_rfl) (by kernel_rfl) (decide_eq_false q29))) (h := ?_)
      refine W.endF 62 [(0, .int .i64 ((a : Nat) : Int)), (1, .int .i64 ((b : Nat) : Int)), (2, .int .i64 ((c : Nat) : Int)), (6, .string (⟨#[]⟩ : ByteArray)), (7, .bool false), (8, .int .i64 ((t : Nat) : Int)), (9, .int .i64 ((i : Nat) : Int)), (10, .int .i64 ((nn : Nat) : Int)), (11, .string s), (24, .bool false), (27, .bool false), (46, .bool false)] (fun U32 => ?_)
      refine h14 _ _ ?_
      refine wp_cond_false (by kernel_rfl) ?_
      refine wp_skip ?_
      refine h13 _ _ ?_
      refine wp_seq_k (fun K16 h16 => ?_)
      refine W.region_sch (row := none) (Sch.of [(0, false), (1, false), (2, false), (3, false), (4, false), (5, false), (6, false), (7, false), (8, false), (9, false), (10, false), (11, false), (12, false), (13, false), (14, false), (15, false)]) (by kernel_rfl) (by kernel_rfl) (fun _ d _ _ _ h => by cases d <;> exact h) (by kernel_rfl) (fun w33 e34 s35 => ?_)
      refine W.mv (v := .string s) (h := ?_)
      refine W.mv (v := .string s) (h := ?_)
      refine W.q (v := .int .i64 ((s.size : Nat) : Int)) (hr := (r_lenS (s := s) rfl (by kernel_rfl) (by kernel_rfl))) (h := ?_)
      refine W.mv (v := .int .i64 ((c : Nat) : Int)) (h := ?_)
      refine W.q (v := .int .i64 (((s.size : Nat) : Int) - ((c : Nat) : Int))) (hr := (r_sub (m := ((s.size : Nat) : Int)) (n := ((c : Nat) : Int)) (z := ((s.size : Nat) : Int) - ((c : Nat) : Int)) rfl (by kernel_rfl) (by kernel_rfl) (rfl) (by omega))) (h := ?_)
      refine W.q (v := .string (s.extract 0 (j - c))) (hr := (r_toS (s := s) (h := (j - c)) rfl (by kernel_rfl) (by rw [show ((j - c : Nat) : Int) = ((s.size : Nat) : Int) - ((c : Nat) : Int) by omega]; kernel_rfl) (by kernel_rfl) (by omega))) (h := ?_)
      refine W.q (v := .string ((s.extract 0 (j - c)) ++ (⟨#[46]⟩ : ByteArray))) (hr := (r_addS (s := (s.extract 0 (j - c))) (r := (⟨#[46]⟩ : ByteArray)) rfl (by kernel_rfl) (by kernel_rfl) (by (try simp only [ByteArray.size_append, ByteArray.size_extract]);  have h46 := size1 46; omega))) (h := ?_)
      refine W.mv (v := .string s) (h := ?_)
      refine W.mv (v := .string s) (h := ?_)
      refine W.q (v := .int .i64 ((s.size : Nat) : Int)) (hr := (r_lenS (s := s) rfl (by kernel_rfl) (by kernel_rfl))) (h := ?_)
      refine W.mv (v := .int .i64 ((c : Nat) : Int)) (h := ?_)
      refine W.q (v := .int .i64 (((s.size : Nat) : Int) - ((c : Nat) : Int))) (hr := (r_sub (m := ((s.size : Nat) : Int)) (n := ((c : Nat) : Int)) (z := ((s.size : Nat) : Int) - ((c : Nat) : Int)) rfl (by kernel_rfl) (by kernel_rfl) (rfl) (by omega))) (h := ?_)
      refine W.q (v := .string (s.extract (j - c) s.size)) (hr := (r_fromS (s := s) (l := (j - c)) rfl (by kernel_rfl) (by rw [show ((j - c : Nat) : Int) = ((s.size : Nat) : Int) - ((c : Nat) : Int) by omega]; kernel_rfl) (by kernel_rfl) (by omega))) (h := ?_)
      refine W.q (v := .string (((s.extract 0 (j - c)) ++ (⟨#[46]⟩ : ByteArray)) ++ (s.extract (j - c) s.size))) (hr := (r_addS (s := ((s.extract 0 (j - c)) ++ (⟨#[46]⟩ : ByteArray))) (r := (s.extract (j - c) s.size)) rfl (by kernel_rfl) (by kernel_rfl) (by (try simp only [ByteArray.size_append, ByteArray.size_extract]);  have h46 := size1 46; omega))) (h := ?_)
      refine W.as (v := .string (((s.extract 0 (j - c)) ++ (⟨#[46]⟩ : ByteArray)) ++ (s.extract (j - c) s.size))) (h := ?_)
      refine W.as (v := .bool true) (h := ?_)
      refine W.endF 62 [(0, .int .i64 ((a : Nat) : Int)), (1, .int .i64 ((b : Nat) : Int)), (2, .int .i64 ((c : Nat) : Int)), (6, .string (((s.extract 0 (j - c)) ++ (⟨#[46]⟩ : ByteArray)) ++ (s.extract (j - c) s.size))), (7, .bool true), (8, .int .i64 ((t : Nat) : Int)), (9, .int .i64 ((i : Nat) : Int)), (10, .int .i64 ((nn : Nat) : Int)), (11, .string s), (24, .bool false), (27, .bool false), (46, .bool false)] (fun U36 => ?_)
      have c37 := (SG.belowR c28 s35 (fun kq e => by cases e))
      refine h16 _ _ ?_
      refine wp_ret ?_
      try simp only [Exit.then]
      refine ret2 (v := .string (((s.extract 0 (j - c)) ++ (⟨#[46]⟩ : ByteArray)) ++ (s.extract (j - c) s.size))) (x := .bool true) rfl (by kernel_rfl) (by kernel_rfl) ?_
      have htp : t = 10 ^ c := by rw [htt, show i = c by omega]
      have hrn : nn = roundN a b c := by rw [hnn, htp]; rfl
      obtain ⟨e1, e2⟩ := dec_yes (a := a) (b := b) (c := c) (by omega) (by omega) (by omega)
      have hfin : ((((s.extract 0 (j - c)) ++ (⟨#[46]⟩ : ByteArray)) ++ (s.extract (j - c) s.size))) = decB nn c := by rw [hs9]; exact dec_parts (by omega) (by omega) hj2 (by rcases hj3 with h9 | h9; exact .inl (by omega); exact .inr h9)
      exact ⟨by rw [e1, e2, ← hrn, ← hfin], c37⟩

theorem DecimalText_spec (a b c : Int) (w : World) : Calls Tryd.prog 23 #[.int .i64 a, .int .i64 b, .int .i64 c] w fun e w' => e = .returned (.tuple #[.string (DecimalText_v0 a b c), .bool (DecimalText_v1 a b c)]) ∧ Below w.heap.size w w' := by
  cases h1 : inB a 0 1000000000000 with
  | false => exact DecimalText_spec_no0 a b c w h1
  | true => cases h2 : inB b 1 1000000 with
    | false => exact DecimalText_spec_no1 a b c w h1 h2
    | true => cases h3 : inB c 0 4 with
      | false => exact DecimalText_spec_no2 a b c w h1 h2 h3
      | true =>
        have i1 := inB_yes.1 h1
        have i2 := inB_yes.1 h2
        have i3 := inB_yes.1 h3
        obtain ⟨a, rfl⟩ := Int.eq_ofNat_of_zero_le i1.1
        obtain ⟨b, rfl⟩ := Int.eq_ofNat_of_zero_le (show 0 ≤ b by omega)
        obtain ⟨c, rfl⟩ := Int.eq_ofNat_of_zero_le i3.1
        exact DecimalText_spec_yes a b c w (by omega) (by omega) (by omega)

set_option maxRecDepth 100000 in
set_option maxHeartbeats 1000000 in
theorem DecimalText_impl_no0 (a b c : Int) (w : World) (htab : Lib.TabIs Tryd.prog w "internal/strconv.uint64pow10" .u64 Lib.pow10Tab) (hk1 : inB a 0 1000000000000 = false) :
    Calls Tryd.prog 24 #[.int .i64 a, .int .i64 b, .int .i64 c] w fun e w' => e = .returned (.tuple #[.string (DecimalText_v0 a b c), .bool (DecimalText_v1 a b c)]) ∧ Below w.heap.size w w' := by
  have hdn : inB a 0 1000000000000 = false ∨ inB b 1 1000000 = false ∨ inB c 0 4 = false := .inl hk1
  go_enter Tryd.func24, Tryd.ntmps24
  refine wp_seq_k (fun K1 h1 => ?_)
  refine W.region_quiet [(0, false), (1, false)] (by kernel_rfl) ?_
  refine W.as (v := .string (⟨#[]⟩ : ByteArray)) (h := ?_)
  refine W.as (v := .bool false) (h := ?_)
  refine W.endF 58 [(0, .int .i64 a), (1, .int .i64 b), (2, .int .i64 c), (6, .string (⟨#[]⟩ : ByteArray)), (7, .bool false)] (fun U1 => ?_)
  refine h1 _ _ ?_
  refine wp_seq_k (fun K2 h2 => ?_)
  refine wp_seq_k (fun K3 h3 => ?_)
  refine W.region_plain (row := none) [(0, false), (1, true), (2, false), (3, false), (4, false), (5, true), (6, false), (7, false), (8, false), (9, false), (10, true), (11, false), (12, false)] (by kernel_rfl) ?_
  have s2 := SG.self w none
  refine W.mv (v := .int .i64 a) (h := ?_)
  refine W.sc (vs := [.int .i64 a, .int .i64 0, .int .i64 1000000000000]) rfl rfl (by kernel_rfl) (by kernel_rfl) (by kernel_rfl) rfl (inside_any a 0 1000000000000 _) ?_
  rintro e w' ⟨rfl, rfl⟩
  refine ⟨_, rfl, s2, ?_⟩
  have q5 : (inB a 0 1000000000000) = false := hk1
  rw [q5]
  refine W.q (v := .bool true) (hr := (r_not (b := false) rfl (by kernel_rfl) rfl)) (h := ?_)
  refine W.mv (v := .bool true) (h := ?_)
  refine W.sp s2 (h := ?_)
  refine W.sp s2 (h := ?_)
  refine W.sp s2 (h := ?_)
  refine W.q (v := .bool true) (hr := (r_pick (b := true) rfl (by kernel_rfl) (by kernel_rfl))) (h := ?_)
  refine W.mv (v := .bool true) (h := ?_)
  refine W.sp s2 (h := ?_)
  refine W.sp s2 (h := ?_)
  refine W.sp s2 (h := ?_)
  refine W.q (v := .bool true) (hr := (r_pick (b := true) rfl (by kernel_rfl) (by kernel_rfl))) (h := ?_)
  refine W.endF 58 [(0, .int .i64 a), (1, .int .i64 b), (2, .int .i64 c), (6, .string (⟨#[]⟩ : ByteArray)), (7, .bool false), (24, .bool true)] (fun U6 => ?_)
  have c7 := (SG.belowR (Below.refl _ _) s2 (fun kq e => by cases e))
  refine h3 _ _ ?_
  refine wp_cond_true (by kernel_rfl) ?_
  refine wp_seq_k (fun K4 h4 => ?_)
  refine W.region_quiet [(0, false), (1, false)] (by kernel_rfl) ?_
  refine W.as (v := .string (⟨#[]⟩ : ByteArray)) (h := ?_)
  refine W.as (v := .bool false) (h := ?_)
  refine W.endF 58 [(0, .int .i64 a), (1, .int .i64 b), (2, .int .i64 c), (6, .string (⟨#[]⟩ : ByteArray)), (7, .bool false), (24, .bool true)] (fun U8 => ?_)
  refine h4 _ _ ?_
  refine wp_ret ?_
  try simp only [Exit.then]
  refine ret2 (v := .string (⟨#[]⟩ : ByteArray)) (x := .bool false) rfl (by kernel_rfl) (by kernel_rfl) ?_
  obtain ⟨e1, e2⟩ := dec_no hdn
  exact ⟨by rw [e1, e2], c7⟩

set_option maxRecDepth 100000 in
set_option maxHeartbeats 1000000 in
theorem DecimalText_impl_no1 (a b c : Int) (w : World) (htab : Lib.TabIs Tryd.prog w "internal/strconv.uint64pow10" .u64 Lib.pow10Tab) (hk1 : inB a 0 1000000000000 = true) (hk2 : inB b 1 1000000 = false) :
    Calls Tryd.prog 24 #[.int .i64 a, .int .i64 b, .int .i64 c] w fun e w' => e = .returned (.tuple #[.string (DecimalText_v0 a b c), .bool (DecimalText_v1 a b c)]) ∧ Below w.heap.size w w' := by
  have hdn : inB a 0 1000000000000 = false ∨ inB b 1 1000000 = false ∨ inB c 0 4 = false := .inr (.inl hk2)
  go_enter Tryd.func24, Tryd.ntmps24
  refine wp_seq_k (fun K1 h1 => ?_)
  refine W.region_quiet [(0, false), (1, false)] (by kernel_rfl) ?_
  refine W.as (v := .string (⟨#[]⟩ : ByteArray)) (h := ?_)
  refine W.as (v := .bool false) (h := ?_)
  refine W.endF 58 [(0, .int .i64 a), (1, .int .i64 b), (2, .int .i64 c), (6, .string (⟨#[]⟩ : ByteArray)), (7, .bool false)] (fun U1 => ?_)
  refine h1 _ _ ?_
  refine wp_seq_k (fun K2 h2 => ?_)
  refine wp_seq_k (fun K3 h3 => ?_)
  refine W.region_plain (row := none) [(0, false), (1, true), (2, false), (3, false), (4, false), (5, true), (6, false), (7, false), (8, false), (9, false), (10, true), (11, false), (12, false)] (by kernel_rfl) ?_
  have s2 := SG.self w none
  refine W.mv (v := .int .i64 a) (h := ?_)
  refine W.sc (vs := [.int .i64 a, .int .i64 0, .int .i64 1000000000000]) rfl rfl (by kernel_rfl) (by kernel_rfl) (by kernel_rfl) rfl (inside_any a 0 1000000000000 _) ?_
  rintro e w' ⟨rfl, rfl⟩
  refine ⟨_, rfl, s2, ?_⟩
  have q5 : (inB a 0 1000000000000) = true := hk1
  rw [q5]
  refine W.q (v := .bool false) (hr := (r_not (b := true) rfl (by kernel_rfl) rfl)) (h := ?_)
  refine W.mv (v := .bool false) (h := ?_)
  refine W.mv (v := .int .i64 b) (h := ?_)
  refine W.sc (vs := [.int .i64 b, .int .i64 1, .int .i64 1000000]) rfl rfl (by kernel_rfl) (by kernel_rfl) (by kernel_rfl) rfl (inside_any b 1 1000000 _) ?_
  rintro e w' ⟨rfl, rfl⟩
  refine ⟨_, rfl, s2, ?_⟩
  have q8 : (inB b 1 1000000) = false := hk2
  rw [q8]
  refine W.q (v := .bool true) (hr := (r_not (b := false) rfl (by kernel_rfl) rfl)) (h := ?_)
  refine W.q (v := .bool true) (hr := (r_pick (b := false) rfl (by kernel_rfl) (by kernel_rfl))) (h := ?_)
  refine W.mv (v := .bool true) (h := ?_)
  refine W.sp s2 (h := ?_)
  refine W.sp s2 (h := ?_)
  refine W.sp s2 (h := ?_)
  refine W.q (v := .bool true) (hr := (r_pick (b := true) rfl (by kernel_rfl) (by kernel_rfl))) (h := ?_)
  refine W.endF 58 [(0, .int .i64 a), (1, .int .i64 b), (2, .int .i64 c), (6, .string (⟨#[]⟩ : ByteArray)), (7, .bool false), (24, .bool true)] (fun U9 => ?_)
  have c10 := (SG.belowR (Below.refl _ _) s2 (fun kq e => by cases e))
  refine h3 _ _ ?_
  refine wp_cond_true (by kernel_rfl) ?_
  refine wp_seq_k (fun K4 h4 => ?_)
  refine W.region_quiet [(0, false), (1, false)] (by kernel_rfl) ?_
  refine W.as (v := .string (⟨#[]⟩ : ByteArray)) (h := ?_)
  refine W.as (v := .bool false) (h := ?_)
  refine W.endF 58 [(0, .int .i64 a), (1, .int .i64 b), (2, .int .i64 c), (6, .string (⟨#[]⟩ : ByteArray)), (7, .bool false), (24, .bool true)] (fun U11 => ?_)
  refine h4 _ _ ?_
  refine wp_ret ?_
  try simp only [Exit.then]
  refine ret2 (v := .string (⟨#[]⟩ : ByteArray)) (x := .bool false) rfl (by kernel_rfl) (by kernel_rfl) ?_
  obtain ⟨e1, e2⟩ := dec_no hdn
  exact ⟨by rw [e1, e2], c10⟩

set_option maxRecDepth 100000 in
set_option maxHeartbeats 1000000 in
theorem DecimalText_impl_no2 (a b c : Int) (w : World) (htab : Lib.TabIs Tryd.prog w "internal/strconv.uint64pow10" .u64 Lib.pow10Tab) (hk1 : inB a 0 1000000000000 = true) (hk2 : inB b 1 1000000 = true) (hk3 : inB c 0 4 = false) :
    Calls Tryd.prog 24 #[.int .i64 a, .int .i64 b, .int .i64 c] w fun e w' => e = .returned (.tuple #[.string (DecimalText_v0 a b c), .bool (DecimalText_v1 a b c)]) ∧ Below w.heap.size w w' := by
  have hdn : inB a 0 1000000000000 = false ∨ inB b 1 1000000 = false ∨ inB c 0 4 = false := .inr (.inr hk3)
  go_enter Tryd.func24, Tryd.ntmps24
  refine wp_seq_k (fun K1 h1 => ?_)
  refine W.region_quiet [(0, false), (1, false)] (by kernel_rfl) ?_
  refine W.as (v := .string (⟨#[]⟩ : ByteArray)) (h := ?_)
  refine W.as (v := .bool false) (h := ?_)
  refine W.endF 58 [(0, .int .i64 a), (1, .int .i64 b), (2, .int .i64 c), (6, .string (⟨#[]⟩ : ByteArray)), (7, .bool false)] (fun U1 => ?_)
  refine h1 _ _ ?_
  refine wp_seq_k (fun K2 h2 => ?_)
  refine wp_seq_k (fun K3 h3 => ?_)
  refine W.region_plain (row := none) [(0, false), (1, true), (2, false), (3, false), (4, false), (5, true), (6, false), (7, false), (8, false), (9, false), (10, true), (11, false), (12, false)] (by kernel_rfl) ?_
  have s2 := SG.self w none
  refine W.mv (v := .int .i64 a) (h := ?_)
  refine W.sc (vs := [.int .i64 a, .int .i64 0, .int .i64 1000000000000]) rfl rfl (by kernel_rfl) (by kernel_rfl) (by kernel_rfl) rfl (inside_any a 0 1000000000000 _) ?_
  rintro e w' ⟨rfl, rfl⟩
  refine ⟨_, rfl, s2, ?_⟩
  have q5 : (inB a 0 1000000000000) = true := hk1
  rw [q5]
  refine W.q (v := .bool false) (hr := (r_not (b := true) rfl (by kernel_rfl) rfl)) (h := ?_)
  refine W.mv (v := .bool false) (h := ?_)
  refine W.mv (v := .int .i64 b) (h := ?_)
  refine W.sc (vs := [.int .i64 b, .int .i64 1, .int .i64 1000000]) rfl rfl (by kernel_rfl) (by kernel_rfl) (by kernel_rfl) rfl (inside_any b 1 1000000 _) ?_
  rintro e w' ⟨rfl, rfl⟩
  refine ⟨_, rfl, s2, ?_⟩
  have q8 : (inB b 1 1000000) = true := hk2
  rw [q8]
  refine W.q (v := .bool false) (hr := (r_not (b := true) rfl (by kernel_rfl) rfl)) (h := ?_)
  refine W.q (v := .bool false) (hr := (r_pick (b := false) rfl (by kernel_rfl) (by kernel_rfl))) (h := ?_)
  refine W.mv (v := .bool false) (h := ?_)
  refine W.mv (v := .int .i64 c) (h := ?_)
  refine W.sc (vs := [.int .i64 c, .int .i64 0, .int .i64 4]) rfl rfl (by kernel_rfl) (by kernel_rfl) (by kernel_rfl) rfl (inside_any c 0 4 _) ?_
  rintro e w' ⟨rfl, rfl⟩
  refine ⟨_, rfl, s2, ?_⟩
  have q11 : (inB c 0 4) = false := hk3
  rw [q11]
  refine W.q (v := .bool true) (hr := (r_not (b := false) rfl (by kernel_rfl) rfl)) (h := ?_)
  refine W.q (v := .bool true) (hr := (r_pick (b := false) rfl (by kernel_rfl) (by kernel_rfl))) (h := ?_)
  refine W.endF 58 [(0, .int .i64 a), (1, .int .i64 b), (2, .int .i64 c), (6, .string (⟨#[]⟩ : ByteArray)), (7, .bool false), (24, .bool true)] (fun U12 => ?_)
  have c13 := (SG.belowR (Below.refl _ _) s2 (fun kq e => by cases e))
  refine h3 _ _ ?_
  refine wp_cond_true (by kernel_rfl) ?_
  refine wp_seq_k (fun K4 h4 => ?_)
  refine W.region_quiet [(0, false), (1, false)] (by kernel_rfl) ?_
  refine W.as (v := .string (⟨#[]⟩ : ByteArray)) (h := ?_)
  refine W.as (v := .bool false) (h := ?_)
  refine W.endF 58 [(0, .int .i64 a), (1, .int .i64 b), (2, .int .i64 c), (6, .string (⟨#[]⟩ : ByteArray)), (7, .bool false), (24, .bool true)] (fun U14 => ?_)
  refine h4 _ _ ?_
  refine wp_ret ?_
  try simp only [Exit.then]
  refine ret2 (v := .string (⟨#[]⟩ : ByteArray)) (x := .bool false) rfl (by kernel_rfl) (by kernel_rfl) ?_
  obtain ⟨e1, e2⟩ := dec_no hdn
  exact ⟨by rw [e1, e2], c13⟩

set_option maxRecDepth 100000 in
set_option maxHeartbeats 1000000 in
theorem DecimalText_impl_yes (a b c : Nat) (w : World) (htab : Lib.TabIs Tryd.prog w "internal/strconv.uint64pow10" .u64 Lib.pow10Tab) (ha : a ≤ 1000000000000) (hb : 1 ≤ b ∧ b ≤ 1000000) (hc : c ≤ 4) :
    Calls Tryd.prog 24 #[.int .i64 ((a : Nat) : Int), .int .i64 ((b : Nat) : Int), .int .i64 ((c : Nat) : Int)] w fun e w' => e = .returned (.tuple #[.string (DecimalText_v0 a b c), .bool (DecimalText_v1 a b c)]) ∧ Below w.heap.size w w' := by
  go_enter Tryd.func24, Tryd.ntmps24
  refine wp_seq_k (fun K1 h1 => ?_)
  refine W.region_quiet [(0, false), (1, false)] (by kernel_rfl) ?_
  refine W.as (v := .string (⟨#[]⟩ : ByteArray)) (h := ?_)
  refine W.as (v := .bool false) (h := ?_)
  refine W.endF 58 [(0, .int .i64 ((a : Nat) : Int)), (1, .int .i64 ((b : Nat) : Int)), (2, .int .i64 ((c : Nat) : Int)), (6, .string (⟨#[]⟩ : ByteArray)), (7, .bool false)] (fun U1 => ?_)
  refine h1 _ _ ?_
  refine wp_seq_k (fun K2 h2 => ?_)
  refine wp_seq_k (fun K3 h3 => ?_)
  refine W.region_plain (row := none) [(0, false), (1, true), (2, false), (3, false), (4, false), (5, true), (6, false), (7, false), (8, false), (9, false), (10, true), (11, false), (12, false)] (by kernel_rfl) ?_
  have s2 := SG.self w none
  refine W.mv (v := .int .i64 ((a : Nat) : Int)) (h := ?_)
  refine W.sc (vs := [.int .i64 ((a : Nat) : Int), .int .i64 0, .int .i64 1000000000000]) rfl rfl (by kernel_rfl) (by kernel_rfl) (by kernel_rfl) rfl (inside_any ((a : Nat) : Int) 0 1000000000000 _) ?_
  rintro e w' ⟨rfl, rfl⟩
  refine ⟨_, rfl, s2, ?_⟩
  have q5 : (inB ((a : Nat) : Int) 0 1000000000000) = true := inB_yes.2 ⟨by omega, by omega⟩
  rw [q5]
  refine W.q (v := .bool false) (hr := (r_not (b := true) rfl (by kernel_rfl) rfl)) (h := ?_)
  refine W.mv (v := .bool false) (h := ?_)
  refine W.mv (v := .int .i64 ((b : Nat) : Int)) (h := ?_)
  refine W.sc (vs := [.int .i64 ((b : Nat) : Int), .int .i64 1, .int .i64 1000000]) rfl rfl (by kernel_rfl) (by kernel_rfl) (by kernel_rfl) rfl (inside_any ((b : Nat) : Int) 1 1000000 _) ?_
  rintro e w' ⟨rfl, rfl⟩
  refine ⟨_, rfl, s2, ?_⟩
  have q8 : (inB ((b : Nat) : Int) 1 1000000) = true := inB_yes.2 ⟨by omega, by omega⟩
  rw [q8]
  refine W.q (v := .bool false) (hr := (r_not (b := true) rfl (by kernel_rfl) rfl)) (h := ?_)
  refine W.q (v := .bool false) (hr := (r_pick (b := false) rfl (by kernel_rfl) (by kernel_rfl))) (h := ?_)
  refine W.mv (v := .bool false) (h := ?_)
  refine W.mv (v := .int .i64 ((c : Nat) : Int)) (h := ?_)
  refine W.sc (vs := [.int .i64 ((c : Nat) : Int), .int .i64 0, .int .i64 4]) rfl rfl (by kernel_rfl) (by kernel_rfl) (by kernel_rfl) rfl (inside_any ((c : Nat) : Int) 0 4 _) ?_
  rintro e w' ⟨rfl, rfl⟩
  refine ⟨_, rfl, s2, ?_⟩
  have q11 : (inB ((c : Nat) : Int) 0 4) = true := inB_yes.2 ⟨by omega, by omega⟩
  rw [q11]
  refine W.q (v := .bool false) (hr := (r_not (b := true) rfl (by kernel_rfl) rfl)) (h := ?_)
  refine W.q (v := .bool false) (hr := (r_pick (b := false) rfl (by kernel_rfl) (by kernel_rfl))) (h := ?_)
  refine W.endF 58 [(0, .int .i64 ((a : Nat) : Int)), (1, .int .i64 ((b : Nat) : Int)), (2, .int .i64 ((c : Nat) : Int)), (6, .string (⟨#[]⟩ : ByteArray)), (7, .bool false), (24, .bool false)] (fun U12 => ?_)
  have c13 := (SG.belowR (Below.refl _ _) s2 (fun kq e => by cases e))
  refine h3 _ _ ?_
  refine wp_cond_false (by kernel_rfl) ?_
  refine wp_skip ?_
  refine h2 _ _ ?_
  refine wp_seq_k (fun K4 h4 => ?_)
  refine W.region_quiet [(0, false)] (by kernel_rfl) ?_
  refine W.as (v := .int .i64 1) (h := ?_)
  refine W.endF 58 [(0, .int .i64 ((a : Nat) : Int)), (1, .int .i64 ((b : Nat) : Int)), (2, .int .i64 ((c : Nat) : Int)), (6, .string (⟨#[]⟩ : ByteArray)), (7, .bool false), (8, .int .i64 1), (24, .bool false)] (fun U14 => ?_)
  refine h4 _ _ ?_
  refine wp_seq_k (fun K5 h5 => ?_)
  refine wp_seq_k (fun K6 h6 => ?_)
  refine W.region_quiet [(0, false), (1, false)] (by kernel_rfl) ?_
  refine W.mv (v := .int .i64 ((c : Nat) : Int)) (h := ?_)
  refine W.mv (v := .int .i64 0) (h := ?_)
  refine W.endF 58 [(0, .int .i64 ((a : Nat) : Int)), (1, .int .i64 ((b : Nat) : Int)), (2, .int .i64 ((c : Nat) : Int)), (6, .string (⟨#[]⟩ : ByteArray)), (7, .bool false), (8, .int .i64 1), (24, .bool false), (25, .int .i64 ((c : Nat) : Int)), (26, .int .i64 0)] (fun U15 => ?_)
  refine h6 _ _ ?_
  refine wp_block ?_
  refine loopK (fun am0 aa0 wl0 => ∃ (i : Nat) (t : Nat) (U0 : Nat → Value), aa0 = ⟨(fr U0 [(0, .int .i64 ((a : Nat) : Int)), (1, .int .i64 ((b : Nat) : Int)), (2, .int .i64 ((c : Nat) : Int)), (6, .string (⟨#[]⟩ : ByteArray)), (7, .bool false), (8, .int .i64 ((t : Nat) : Int)), (24, .bool false), (25, .int .i64 ((c : Nat) : Int)), (26, .int .i64 ((i : Nat) : Int))] 58 0).toArray, []⟩ ∧ (am0 = c - i) ∧ (i ≤ c) ∧ (t = 10 ^ i) ∧ (1 ≤ t ∧ t ≤ 10000) ∧ (Below w.heap.size w wl0)) (c - 0) ?_ ?_
  · exact ⟨0, 1, (fun iU9 => lk [(0, .int .i64 ((a : Nat) : Int)), (1, .int .i64 ((b : Nat) : Int)), (2, .int .i64 ((c : Nat) : Int)), (6, .string (⟨#[]⟩ : ByteArray)), (7, .bool false), (8, .int .i64 1), (24, .bool false), (25, .int .i64 ((c : Nat) : Int)), (26, .int .i64 0)] iU9 (U15 iU9)), (by kernel_rfl), rfl, (by omega), rfl, (by omega), c13⟩
  rintro am0 aa0 wl0 K7 h7 ⟨i, t, U0, rfl, rfl, hi, htt, htb, c16⟩
  refine wp_seq_k (fun K8 h8 => ?_)
  refine W.region_quiet [(0, false)] (by kernel_rfl) ?_
  by_cases q17 : (((i : Nat) : Int) : Int) < (((c : Nat) : Int) : Int)
  · refine W.q (v := .bool true) (hr := (r_lss (m := ((i : Nat) : Int)) (n := ((c : Nat) : Int)) rfl (by kernel_rfl) (by kernel_rfl) (decide_eq_true q17))) (h := ?_)
    refine W.endF 58 [(0, .int .i64 ((a : Nat) : Int)), (1, .int .i64 ((b : Nat) : Int)), (2, .int .i64 ((c : Nat) : Int)), (6, .string (⟨#[]⟩ : ByteArray)), (7, .bool false), (8, .int .i64 ((t : Nat) : Int)), (24, .bool false), (25, .int .i64 ((c : Nat) : Int)), (26, .int .i64 ((i : Nat) : Int)), (27, .bool true)] (fun U18 => ?_)
    refine h8 _ _ ?_
    refine wp_seq_k (fun K9 h9 => ?_)
    refine wp_cond_true (by kernel_rfl) ?_
    refine wp_skip ?_
    refine h9 _ _ ?_
    refine wp_seq_k (fun K10 h10 => ?_)
    refine wp_block ?_
    refine W.region_quiet [(0, false), (1, false), (2, false)] (by kernel_rfl) ?_
    refine W.mv (v := .int .i64 ((t : Nat) : Int)) (h := ?_)
    refine W.q (v := .int .i64 ((10 * t : Nat) : Int)) (hr := (r_mulK (k := .i64) (m := ((t : Nat) : Int)) (n := 10) (z := ((10 * t : Nat) : Int)) rfl (by kernel_rfl) (by kernel_rfl) (by rw [show ((t : Nat) : Int) * 10 = ((10 * t : Nat) : Int) by omega]; exact wrap_i64 (by omega) (by omega)))) (h := ?_)
    refine W.as (v := .int .i64 ((10 * t : Nat) : Int)) (h := ?_)
    refine W.endF 58 [(0, .int .i64 ((a : Nat) : Int)), (1, .int .i64 ((b : Nat) : Int)), (2, .int .i64 ((c : Nat) : Int)), (6, .string (⟨#[]⟩ : ByteArray)), (7, .bool false), (8, .int .i64 ((10 * t : Nat) : Int)), (24, .bool false), (25, .int .i64 ((c : Nat) : Int)), (26, .int .i64 ((i : Nat) : Int)), (27, .bool true)] (fun U19 => ?_)
    refine h10 _ _ ?_
    refine W.region_quiet [(0, false), (1, false)] (by kernel_rfl) ?_
    refine W.q (v := .int .i64 ((i + 1 : Nat) : Int)) (hr := (r_add (m := ((i : Nat) : Int)) (n := 1) (z := ((i + 1 : Nat) : Int)) rfl (by kernel_rfl) (by kernel_rfl) (by omega) (by omega))) (h := ?_)
    refine W.mv (v := .int .i64 ((i + 1 : Nat) : Int)) (h := ?_)
    refine W.endF 58 [(0, .int .i64 ((a : Nat) : Int)), (1, .int .i64 ((b : Nat) : Int)), (2, .int .i64 ((c : Nat) : Int)), (6, .string (⟨#[]⟩ : ByteArray)), (7, .bool false), (8, .int .i64 ((10 * t : Nat) : Int)), (24, .bool false), (25, .int .i64 ((c : Nat) : Int)), (26, .int .i64 ((i + 1 : Nat) : Int)), (27, .bool true)] (fun U20 => ?_)
    exact h7 _ _ _ (by omega : (c - (i + 1)) < _) ⟨i + 1, 10 * t, (fun iU9 => lk [(0, .int .i64 ((a : Nat) : Int)), (1, .int .i64 ((b : Nat) : Int)), (2, .int .i64 ((c : Nat) : Int)), (6, .string (⟨#[]⟩ : ByteArray)), (7, .bool false), (8, .int .i64 ((10 * t : Nat) : Int)), (24, .bool false), (25, .int .i64 ((c : Nat) : Int)), (26, .int .i64 ((i + 1 : Nat) : Int)), (27, .bool true)] iU9 (U20 iU9)), (by kernel_rfl), rfl, (by omega), (by rw [htt, Nat.pow_succ, Nat.mul_comm]), (by have h9 := pow_le4 (p := i + 1) (by omega); rw [Nat.pow_succ, ← htt] at h9; omega), c16⟩
  · refine W.q (v := .bool false) (hr := (r_lss (m := ((i : Nat) : Int)) (n := ((c : Nat) : Int)) rfl (by kernel_rfl) (by kernel_rfl) (decide_eq_false q17))) (h := ?_)
    refine W.endF 58 [(0, .int .i64 ((a : Nat) : Int)), (1, .int .i64 ((b : Nat) : Int)), (2, .int .i64 ((c : Nat) : Int)), (6, .string (⟨#[]⟩ : ByteArray)), (7, .bool false), (8, .int .i64 ((t : Nat) : Int)), (24, .bool false), (25, .int .i64 ((c : Nat) : Int)), (26, .int .i64 ((i : Nat) : Int)), (27, .bool false)] (fun U21 => ?_)
    refine h8 _ _ ?_
    refine wp_seq_k (fun K11 h11 => ?_)
    refine wp_cond_false (by kernel_rfl) ?_
    refine wp_exit ?_
    refine h5 _ _ ?_
    refine wp_seq_k (fun K12 h12 => ?_)
    refine W.region_quiet [(0, false), (1, false), (2, false), (3, false), (4, false), (5, false), (6, false), (7, false), (8, false), (9, false)] (by kernel_rfl) ?_
    refine W.mv (v := .int .i64 ((a : Nat) : Int)) (h := ?_)
    refine W.q (v := .int .i64 ((2 * a : Nat) : Int)) (hr := (r_mulK (k := .i64) (m := 2) (n := ((a : Nat) : Int)) (z := ((2 * a : Nat) : Int)) rfl (by kernel_rfl) (by kernel_rfl) (by rw [show 2 * ((a : Nat) : Int) = ((2 * a : Nat) : Int) by omega]; exact wrap_i64 (by omega) (by omega)))) (h := ?_)
    refine W.mv (v := .int .i64 ((t : Nat) : Int)) (h := ?_)
    have hrb := round_bd (a := a) (t := t) (by omega) (by omega)
    refine W.q (v := .int .i64 ((2 * a * t : Nat) : Int)) (hr := (r_mulK (k := .i64) (m := ((2 * a : Nat) : Int)) (n := ((t : Nat) : Int)) (z := ((2 * a * t : Nat) : Int)) rfl (by kernel_rfl) (by kernel_rfl) (by rw [show ((2 * a : Nat) : Int) * ((t : Nat) : Int) = ((2 * a * t : Nat) : Int) from (Int.natCast_mul _ _).symm]; exact wrap_i64 (by omega) (by omega)))) (h := ?_)
    refine W.mv (v := .int .i64 ((b : Nat) : Int)) (h := ?_)
    refine W.q (v := .int .i64 ((2 * a * t + b : Nat) : Int)) (hr := (r_add (m := ((2 * a * t : Nat) : Int)) (n := ((b : Nat) : Int)) (z := ((2 * a * t + b : Nat) : Int)) rfl (by kernel_rfl) (by kernel_rfl) (by omega) (by omega))) (h := ?_)
    refine W.mv (v := .int .i64 ((b : Nat) : Int)) (h := ?_)
    refine W.q (v := .int .i64 ((2 * b : Nat) : Int)) (hr := (r_mulK (k := .i64) (m := 2) (n := ((b : Nat) : Int)) (z := ((2 * b : Nat) : Int)) rfl (by kernel_rfl) (by kernel_rfl) (by rw [show 2 * ((b : Nat) : Int) = ((2 * b : Nat) : Int) by omega]; exact wrap_i64 (by omega) (by omega)))) (h := ?_)
    obtain ⟨nn, hnn⟩ : ∃ nn : Nat, nn = (2 * a * t + b) / (2 * b) := ⟨_, rfl⟩
    have hnb : nn ≤ 2 * a * t + b := by rw [hnn]; exact Nat.div_le_self _ _
    refine W.q (v := .int .i64 ((nn : Nat) : Int)) (hr := (r_quoK (k := .i64) (m := ((2 * a * t + b : Nat) : Int)) (n := ((2 * b : Nat) : Int)) (z := ((nn : Nat) : Int)) rfl (by kernel_rfl) (by kernel_rfl) (by omega) (by rw [show Int.tdiv ((2 * a * t + b : Nat) : Int) ((2 * b : Nat) : Int) = (((2 * a * t + b) / (2 * b) : Nat) : Int) from rfl, ← hnn]; exact wrap_i64 (by omega) (by omega)))) (h := ?_)
    refine W.as (v := .int .i64 ((nn : Nat) : Int)) (h := ?_)
    refine W.endF 58 [(0, .int .i64 ((a : Nat) : Int)), (1, .int .i64 ((b : Nat) : Int)), (2, .int .i64 ((c : Nat) : Int)), (6, .string (⟨#[]⟩ : ByteArray)), (7, .bool false), (8, .int .i64 ((t : Nat) : Int)), (9, .int .i64 ((nn : Nat) : Int)), (24, .bool false), (25, .int .i64 ((c : Nat) : Int)), (26, .int .i64 ((i : Nat) : Int)), (27, .bool false)] (fun U22 => ?_)
    refine h12 _ _ ?_
    refine wp_seq_k (fun K13 h13 => ?_)
    refine W.region_plain (row := none) [(0, false), (1, false), (2, false), (3, true), (4, false)] (by kernel_rfl) ?_
    have s23 := SG.self wl0 none
    refine W.mv (v := .int .i64 ((nn : Nat) : Int)) (h := ?_)
    refine W.mv (v := .int .i64 ((t : Nat) : Int)) (h := ?_)
    obtain ⟨qq, hqq⟩ : ∃ qq : Nat, qq = nn / t := ⟨_, rfl⟩
    have hqb : qq ≤ nn := by rw [hqq]; exact Nat.div_le_self _ _
    refine W.q (v := .int .i64 ((qq : Nat) : Int)) (hr := (r_quoK (k := .i64) (m := ((nn : Nat) : Int)) (n := ((t : Nat) : Int)) (z := ((qq : Nat) : Int)) rfl (by kernel_rfl) (by kernel_rfl) (by omega) (by rw [show Int.tdiv ((nn : Nat) : Int) ((t : Nat) : Int) = ((nn / t : Nat) : Int) from rfl, ← hqq]; exact wrap_i64 (by omega) (by omega)))) (h := ?_)
    refine W.sc (vs := [.int .i64 ((qq : Nat) : Int)]) rfl rfl (by kernel_rfl) (by kernel_rfl) (by kernel_rfl) rfl (itoa_lib ((qq : Nat) : Int) (by omega) (by omega) _ (tab_kept htab (SG.belowR c16 s23 (fun kq e => by cases e)))) ?_
    rintro e w25 ⟨rfl, b24⟩
    have s26 := SG.of_below s23 b24
    refine ⟨_, rfl, s26, ?_⟩
    refine W.as (v := .string (itoaB ((qq : Nat) : Int))) (h := ?_)
    refine W.endF 58 [(0, .int .i64 ((a : Nat) : Int)), (1, .int .i64 ((b : Nat) : Int)), (2, .int .i64 ((c : Nat) : Int)), (6, .string (⟨#[]⟩ : ByteArray)), (7, .bool false), (8, .int .i64 ((t : Nat) : Int)), (9, .int .i64 ((nn : Nat) : Int)), (10, .string (itoaB ((qq : Nat) : Int))), (24, .bool false), (25, .int .i64 ((c : Nat) : Int)), (26, .int .i64 ((i : Nat) : Int)), (27, .bool false)] (fun U27 => ?_)
    have c28 := (SG.belowR c16 s26 (fun kq e => by cases e))
    refine h13 _ _ ?_
    refine wp_seq_k (fun K14 h14 => ?_)
    refine wp_seq_k (fun K15 h15 => ?_)
    refine W.region_quiet [(0, false), (1, false)] (by kernel_rfl) ?_
    refine W.mv (v := .int .i64 ((c : Nat) : Int)) (h := ?_)
    by_cases q29 : (((c : Nat) : Int) : Int) > (0 : Int)
    · refine W.q (v := .bool true) (hr := (r_gtr (m := ((c : Nat) : Int)) (n := 0) rfl (by kernel_rfl) (by kernel_rfl) (decide_eq_true q29))) (h := ?_)
      refine W.endF 58 [(0, .int .i64 ((a : Nat) : Int)), (1, .int .i64 ((b : Nat) : Int)), (2, .int .i64 ((c : Nat) : Int)), (6, .string (⟨#[]⟩ : ByteArray)), (7, .bool false), (8, .int .i64 ((t : Nat) : Int)), (9, .int .i64 ((nn : Nat) : Int)), (10, .string (itoaB ((qq : Nat) : Int))), (24, .bool false), (25, .int .i64 ((c : Nat) : Int)), (26, .int .i64 ((i : Nat) : Int)), (27, .bool false), (45, .bool true)] (fun U30 => ?_)
      refine h15 _ _ ?_
      refine wp_cond_true (by kernel_rfl) ?_
      refine wp_seq_k (fun K16 h16 => ?_)
      refine W.region_plain (row := none) [(0, false), (1, false), (2, false), (3, false), (4, false), (5, true), (6, false)] (by kernel_rfl) ?_
      have s31 := SG.self w25 none
      refine W.mv (v := .int .i64 ((t : Nat) : Int)) (h := ?_)
      refine W.mv (v := .int .i64 ((nn : Nat) : Int)) (h := ?_)
      refine W.mv (v := .int .i64 ((t : Nat) : Int)) (h := ?_)
      obtain ⟨rr, hrr⟩ : ∃ rr : Nat, rr = nn % t := ⟨_, rfl⟩
      have hrl : rr < t := by rw [hrr]; exact Nat.mod_lt nn (by omega)
      refine W.q (v := .int .i64 ((rr : Nat) : Int)) (hr := (r_remK (k := .i64) (m := ((nn : Nat) : Int)) (n := ((t : Nat) : Int)) (z := ((rr : Nat) : Int)) rfl (by kernel_rfl) (by kernel_rfl) (by omega) (by rw [hrr]; rfl))) (h := ?_)
      refine W.q (v := .int .i64 ((t + rr : Nat) : Int)) (hr := (r_add (m := ((t : Nat) : Int)) (n := ((rr : Nat) : Int)) (z := ((t + rr : Nat) : Int)) rfl (by kernel_rfl) (by kernel_rfl) (by omega) (by omega))) (h := ?_)
      refine W.sc (vs := [.int .i64 ((t + rr : Nat) : Int)]) rfl rfl (by kernel_rfl) (by kernel_rfl) (by kernel_rfl) rfl (itoa_lib ((t + rr : Nat) : Int) (by omega) (by omega) _ (tab_kept htab (SG.belowR c28 s31 (fun kq e => by cases e)))) ?_
      rintro e w33 ⟨rfl, b32⟩
      have s34 := SG.of_below s31 b32
      refine ⟨_, rfl, s34, ?_⟩
      refine W.as (v := .string (itoaB ((t + rr : Nat) : Int))) (h := ?_)
      refine W.endF 58 [(0, .int .i64 ((a : Nat) : Int)), (1, .int .i64 ((b : Nat) : Int)), (2, .int .i64 ((c : Nat) : Int)), (6, .string (⟨#[]⟩ : ByteArray)), (7, .bool false), (8, .int .i64 ((t : Nat) : Int)), (9, .int .i64 ((nn : Nat) : Int)), (10, .string (itoaB ((qq : Nat) : Int))), (11, .string (itoaB ((t + rr : Nat) : Int))), (24, .bool false), (25, .int .i64 ((c : Nat) : Int)), (26, .int .i64 ((i : Nat) : Int)), (27, .bool false), (45, .bool true)] (fun U35 => ?_)
      have c36 := (SG.belowR c28 s34 (fun kq e => by cases e))
      refine h16 _ _ ?_
      refine W.region_quiet [(0, false), (1, false), (2, false), (3, false), (4, false), (5, false)] (by kernel_rfl) ?_
      refine W.mv (v := .string (itoaB ((qq : Nat) : Int))) (h := ?_)
      refine W.mv (v := .string (itoaB ((t + rr : Nat) : Int))) (h := ?_)
      have hip := itoa_pos (((t + rr : Nat)) : Int)
      refine W.q (v := .string ((itoaB ((t + rr : Nat) : Int)).extract 1 (itoaB ((t + rr : Nat) : Int)).size)) (hr := (r_fromS (s := (itoaB ((t + rr : Nat) : Int))) (l := 1) rfl (by kernel_rfl) (by kernel_rfl) (by kernel_rfl) (by omega))) (h := ?_)
      refine W.q (v := .string ((⟨#[46]⟩ : ByteArray) ++ ((itoaB ((t + rr : Nat) : Int)).extract 1 (itoaB ((t + rr : Nat) : Int)).size))) (hr := (r_addS (s := (⟨#[46]⟩ : ByteArray)) (r := ((itoaB ((t + rr : Nat) : Int)).extract 1 (itoaB ((t + rr : Nat) : Int)).size)) rfl (by kernel_rfl) (by kernel_rfl) (by (try simp only [ByteArray.size_append, ByteArray.size_extract]); have := itoaB_le (n := ((t + rr : Nat) : Int)) (by omega) (by omega); have h46 := size1 46; omega))) (h := ?_)
      refine W.q (v := .string ((itoaB ((qq : Nat) : Int)) ++ ((⟨#[46]⟩ : ByteArray) ++ ((itoaB ((t + rr : Nat) : Int)).extract 1 (itoaB ((t + rr : Nat) : Int)).size)))) (hr := (r_addS (s := (itoaB ((qq : Nat) : Int))) (r := ((⟨#[46]⟩ : ByteArray) ++ ((itoaB ((t + rr : Nat) : Int)).extract 1 (itoaB ((t + rr : Nat) : Int)).size))) rfl (by kernel_rfl) (by kernel_rfl) (by (try simp only [ByteArray.size_append, ByteArray.size_extract]); have := itoaB_le (n := ((qq : Nat) : Int)) (by omega) (by omega); have := itoaB_le (n := ((t + rr : Nat) : Int)) (by omega) (by omega); have h46 := size1 46; omega))) (h := ?_)
      refine W.as (v := .string ((itoaB ((qq : Nat) : Int)) ++ ((⟨#[46]⟩ : ByteArray) ++ ((itoaB ((t + rr : Nat) : Int)).extract 1 (itoaB ((t + rr : Nat) : Int)).size)))) (h := ?_)
      refine W.endF 58 [(0, .int .i64 ((a : Nat) : Int)), (1, .int .i64 ((b : Nat) : Int)), (2, .int .i64 ((c : Nat) : Int)), (6, .string (⟨#[]⟩ : ByteArray)), (7, .bool false), (8, .int .i64 ((t : Nat) : Int)), (9, .int .i64 ((nn : Nat) : Int)), (10, .string ((itoaB ((qq : Nat) : Int)) ++ ((⟨#[46]⟩ : ByteArray) ++ ((itoaB ((t + rr : Nat) : Int)).extract 1 (itoaB ((t + rr : Nat) : Int)).size)))), (11, .string (itoaB ((t + rr : Nat) : Int))), (24, .bool false), (25, .int .i64 ((c : Nat) : Int)), (26, .int .i64 ((i : Nat) : Int)), (27, .bool false), (45, .bool true)] (fun U37 => ?_)
      refine h14 _ _ ?_
      refine wp_seq_k (fun K17 h17 => ?_)
      refine W.region_quiet [(0, false), (1, false), (2, false)] (by kernel_rfl) ?_
      refine W.mv (v := .string ((itoaB ((qq : Nat) : Int)) ++ ((⟨#[46]⟩ : ByteArray) ++ ((itoaB ((t + rr : Nat) : Int)).extract 1 (itoaB ((t + rr : Nat) : Int)).size)))) (h := ?_)
      refine W.as (v := .string ((itoaB ((qq : Nat) : Int)) ++ ((⟨#[46]⟩ : ByteArray) ++ ((itoaB ((t + rr : Nat) : Int)).extract 1 (itoaB ((t + rr : Nat) : Int)).size)))) (h := ?_)
      refine W.as (v := .bool true) (h := ?_)
      refine W.endF 58 [(0, .int .i64 ((a : Nat) : Int)), (1, .int .i64 ((b : Nat) : Int)), (2, .int .i64 ((c : Nat) : Int)), (6, .string ((itoaB ((qq : Nat) : Int)) ++ ((⟨#[46]⟩ : ByteArray) ++ ((itoaB ((t + rr : Nat) : Int)).extract 1 (itoaB ((t + rr : Nat) : Int)).size)))), (7, .bool true), (8, .int .i64 ((t : Nat) : Int)), (9, .int .i64 ((nn : Nat) : Int)), (10, .string ((itoaB ((qq : Nat) : Int)) ++ ((⟨#[46]⟩ : ByteArray) ++ ((itoaB ((t + rr : Nat) : Int)).extract 1 (itoaB ((t + rr : Nat) : Int)).size)))), (11, .string (itoaB ((t + rr : Nat) : Int))), (24, .bool false), (25, .int .i64 ((c : Nat) : Int)), (26, .int .i64 ((i : Nat) : Int)), (27, .bool false), (45, .bool true)] (fun U38 => ?_)
      refine h17 _ _ ?_
      refine wp_ret ?_
      try simp only [Exit.then]
      refine ret2 (v := .string ((itoaB ((qq : Nat) : Int)) ++ ((⟨#[46]⟩ : ByteArray) ++ ((itoaB ((t + rr : Nat) : Int)).extract 1 (itoaB ((t + rr : Nat) : Int)).size)))) (x := .bool true) rfl (by kernel_rfl) (by kernel_rfl) ?_
      have htp : t = 10 ^ c := by rw [htt, show i = c by omega]
      have hrn : nn = roundN a b c := by rw [hnn, htp]; rfl
      obtain ⟨e1, e2⟩ := dec_yes (a := a) (b := b) (c := c) (by omega) (by omega) (by omega)
      have hfin : (((itoaB ((qq : Nat) : Int)) ++ ((⟨#[46]⟩ : ByteArray) ++ ((itoaB ((t + rr : Nat) : Int)).extract 1 (itoaB ((t + rr : Nat) : Int)).size)))) = decB nn c := by unfold decB; rw [if_neg (by omega), hqq, hrr, htp, tail_low nn c]
      exact ⟨by rw [e1, e2, ← hrn, ← hfin], c36⟩
    · refine W.q (v := .bool false) (hr := (r_gtr (m := ((c : Nat) : Int)) (n := 0) rfl (by kernel_rfl) (by kernel_rfl) (decide_eq_false q29))) (h := ?_)
      refine W.endF 58 [(0, .int .i64 ((a : Nat) : Int)), (1, .int .i64 ((b : Nat) : Int)), (2, .int .i64 ((c : Nat) : Int)), (6, .string (⟨#[]⟩ : ByteArray)), (7, .bool false), (8, .int .i64 ((t : Nat) : Int)), (9, .int .i64 ((nn : Nat) : Int)), (10, .string (itoaB ((qq : Nat) : Int))), (24, .bool false), (25, .int .i64 ((c : Nat) : Int)), (26, .int .i64 ((i : Nat) : Int)), (27, .bool false), (45, .bool false)] (fun U39 => ?_)
      refine h15 _ _ ?_
      refine wp_cond_false (by kernel_rfl) ?_
      refine wp_skip ?_
      refine h14 _ _ ?_
      refine wp_seq_k (fun K18 h18 => ?_)
      refine W.region_quiet [(0, false), (1, false), (2, false)] (by kernel_rfl) ?_
      refine W.mv (v := .string (itoaB ((qq : Nat) : Int))) (h := ?_)
      refine W.as (v := .string (itoaB ((qq : Nat) : Int))) (h := ?_)
      refine W.as (v := .bool true) (h := ?_)
      refine W.endF 58 [(0, .int .i64 ((a : Nat) : Int)), (1, .int .i64 ((b : Nat) : Int)), (2, .int .i64 ((c : Nat) : Int)), (6, .string (itoaB ((qq : Nat) : Int))), (7, .bool true), (8, .int .i64 ((t : Nat) : Int)), (9, .int .i64 ((nn : Nat) : Int)), (10, .string (itoaB ((qq : Nat) : Int))), (24, .bool false), (25, .int .i64 ((c : Nat) : Int)), (26, .int .i64 ((i : Nat) : Int)), (27, .bool false), (45, .bool false)] (fun U40 => ?_)
      refine h18 _ _ ?_
      refine wp_ret ?_
      try simp only [Exit.then]
      refine ret2 (v := .string (itoaB ((qq : Nat) : Int))) (x := .bool true) rfl (by kernel_rfl) (by kernel_rfl) ?_
      have htp : t = 10 ^ c := by rw [htt, show i = c by omega]
      have hrn : nn = roundN a b c := by rw [hnn, htp]; rfl
      obtain ⟨e1, e2⟩ := dec_yes (a := a) (b := b) (c := c) (by omega) (by omega) (by omega)
      have hfin : ((itoaB ((qq : Nat) : Int))) = decB nn c := by have hc0 : c = 0 := (by omega); rw [hqq, htp, hc0, Nat.pow_zero, Nat.div_one]; rfl
      exact ⟨by rw [e1, e2, ← hrn, ← hfin], c28⟩

theorem DecimalText_impl (a b c : Int) (w : World) (htab : Lib.TabIs Tryd.prog w "internal/strconv.uint64pow10" .u64 Lib.pow10Tab) : Calls Tryd.prog 24 #[.int .i64 a, .int .i64 b, .int .i64 c] w fun e w' => e = .returned (.tuple #[.string (DecimalText_v0 a b c), .bool (DecimalText_v1 a b c)]) ∧ Below w.heap.size w w' := by
  cases h1 : inB a 0 1000000000000 with
  | false => exact DecimalText_impl_no0 a b c w htab h1
  | true => cases h2 : inB b 1 1000000 with
    | false => exact DecimalText_impl_no1 a b c w htab h1 h2
    | true => cases h3 : inB c 0 4 with
      | false => exact DecimalText_impl_no2 a b c w htab h1 h2 h3
      | true =>
        have i1 := inB_yes.1 h1
        have i2 := inB_yes.1 h2
        have i3 := inB_yes.1 h3
        obtain ⟨a, rfl⟩ := Int.eq_ofNat_of_zero_le i1.1
        obtain ⟨b, rfl⟩ := Int.eq_ofNat_of_zero_le (show 0 ≤ b by omega)
        obtain ⟨c, rfl⟩ := Int.eq_ofNat_of_zero_le i3.1
        exact DecimalText_impl_yes a b c w htab (by omega) (by omega) (by omega)

end Go.Proofs.YtlkphjlabmnjiaaDoor
