/- Rows of texts: the laws' helpers: equality, marks. -/
import Derived.Test.YtgpallafdmjbdaaProg
import Derived.Test.YtgpallafdmjbdaaTxt
namespace Go.Proofs.Ytgpallafdmjbdaa
open Go.RowKit
set_option linter.unusedVariables false
set_option linter.unusedSimpArgs false

def dgB (K : Nat) : UInt8 := UInt8.ofNat (48 + K % 10)
theorem dgB_wrap (K : Nat) : IntKind.u8.wrap (48 + ((K % 10 : Nat) : Int)) = (((dgB K).toNat : Nat) : Int) := by
  have h : 48 + K % 10 < 256 := by omega
  rw [show (48 : Int) + ((K % 10 : Nat) : Int) = ((48 + K % 10 : Nat) : Int) by omega, show (dgB K).toNat = 48 + K % 10 from by unfold dgB; simp; omega]
  exact IntWalk.u8_in _ (by omega)
/-- The digits of K, ahead of a text. -/
def markGo (K : Nat) (acc : ByteArray) : ByteArray := if h : K = 0 then acc else markGo (K / 10) (⟨#[dgB K]⟩ ++ acc)
termination_by K
decreasing_by omega
theorem markGo_pos {K : Nat} {acc : ByteArray} (h : 0 < K) : markGo K acc = markGo (K / 10) (⟨#[dgB K]⟩ ++ acc) := by rw [markGo, dif_neg (by omega)]
theorem markGo_zero {K : Nat} {acc : ByteArray} (h : K = 0) : markGo K acc = acc := by rw [markGo, dif_pos h]
/-- The mark of a number. -/
def markT (K : Nat) : ByteArray := if K = 0 then ⟨#[109, 48]⟩ else ⟨#[109]⟩ ++ markGo K ⟨#[]⟩
def marksFrom (k0 : Int) (n : Nat) : List ByteArray := (List.range n).map fun (i : Nat) => markT (k0 + (i : Int)).toNat
theorem marks_at (k0 : Int) (n k : Nat) (h : k < n) : (marksFrom k0 n)[k]? = some (markT (k0 + (k : Int)).toNat) := by simp [marksFrom, h]

set_option maxRecDepth 100000 in
set_option maxHeartbeats 1000000 in
theorem markText_nat (K0 : Nat) (w : World) (hK : K0 ≤ 4611686018427387904) :
    Calls Try.prog 29 #[.int .i64 ((K0 : Nat) : Int)] w fun e w' => e = .returned (.string (markT K0)) ∧ Below w.heap.size w w' := by
  go_enter Try.func29, Try.ntmps29
  refine wp_seq_k (fun K1 h1 => ?_)
  refine W.region_quiet [(0, false)] (by kernel_rfl) ?_
  refine W.as (v := .string (⟨#[]⟩ : ByteArray)) (h := ?_)
  refine W.endF 20 [(0, .int .i64 ((K0 : Nat) : Int)), (2, .string (⟨#[]⟩ : ByteArray))] (fun U1 => ?_)
  refine h1 _ _ ?_
  refine wp_seq_k (fun K2 h2 => ?_)
  refine wp_seq_k (fun K3 h3 => ?_)
  refine W.region_quiet [(0, false), (1, false)] (by kernel_rfl) ?_
  refine W.mv (v := .int .i64 ((K0 : Nat) : Int)) (h := ?_)
  by_cases q2 : (((K0 : Nat) : Int) : Int) ≤ (0 : Int)
  · refine W.q (v := .bool true) (hr := (r_leq (m := ((K0 : Nat) : Int)) (n := 0) rfl (by kernel_rfl) (by kernel_rfl) (decide_eq_true q2))) (h := ?_)
    refine W.endF 20 [(0, .int .i64 ((K0 : Nat) : Int)), (2, .string (⟨#[]⟩ : ByteArray)), (5, .bool true)] (fun U3 => ?_)
    refine h3 _ _ ?_
    refine wp_cond_true (by kernel_rfl) ?_
    refine wp_seq_k (fun K4 h4 => ?_)
    refine W.region_quiet [(0, false)] (by kernel_rfl) ?_
    refine W.as (v := .string (⟨#[109, 48]⟩ : ByteArray)) (h := ?_)
    refine W.endF 20 [(0, .int .i64 ((K0 : Nat) : Int)), (2, .string (⟨#[109, 48]⟩ : ByteArray)), (5, .bool true)] (fun U4 => ?_)
    refine h4 _ _ ?_
    refine wp_ret ?_
    try simp only [Exit.then]
    refine ret1 (v := .string (⟨#[109, 48]⟩ : ByteArray)) rfl (by kernel_rfl) ?_
    exact ⟨by unfold markT; rw [if_pos (by omega)], (Below.refl _ _)⟩
  · refine W.q (v := .bool false) (hr := (r_leq (m := ((K0 : Nat) : Int)) (n := 0) rfl (by kernel_rfl) (by kernel_rfl) (decide_eq_false q2))) (h := ?_)
    refine W.endF 20 [(0, .int .i64 ((K0 : Nat) : Int)), (2, .string (⟨#[]⟩ : ByteArray)), (5, .bool false)] (fun U5 => ?_)
    refine h3 _ _ ?_
    refine wp_cond_false (by kernel_rfl) ?_
    refine wp_skip ?_
    refine h2 _ _ ?_
    refine wp_seq_k (fun K5 h5 => ?_)
    refine W.region_quiet [(0, false)] (by kernel_rfl) ?_
    refine W.as (v := .string (⟨#[]⟩ : ByteArray)) (h := ?_)
    refine W.endF 20 [(0, .int .i64 ((K0 : Nat) : Int)), (2, .string (⟨#[]⟩ : ByteArray)), (3, .string (⟨#[]⟩ : ByteArray)), (5, .bool false)] (fun U6 => ?_)
    refine h5 _ _ ?_
    refine wp_seq_k (fun K6 h6 => ?_)
    refine wp_block ?_
    refine loopK (fun am0 aa0 wl0 => ∃ (K : Nat) (acc : ByteArray) (U0 : Nat → Value), aa0 = ⟨(fr U0 [(0, .int .i64 ((K : Nat) : Int)), (2, .string (⟨#[]⟩ : ByteArray)), (3, .string acc), (5, .bool false)] 20 0).toArray, []⟩ ∧ (am0 = K + 1) ∧ (markGo K acc = markGo K0 ⟨#[]⟩) ∧ (acc.size + K ≤ 4611686018427387904) ∧ (Below w.heap.size w wl0)) (K0 + 1) ?_ ?_
    · exact ⟨K0, (⟨#[]⟩ : ByteArray), (fun iU9 => lk [(0, .int .i64 ((K0 : Nat) : Int)), (2, .string (⟨#[]⟩ : ByteArray)), (3, .string (⟨#[]⟩ : ByteArray)), (5, .bool false)] iU9 (U6 iU9)), (by kernel_rfl), rfl, rfl, (by have : (⟨#[]⟩ : ByteArray).size = 0 := rfl; omega), (Below.refl _ _)⟩
    rintro am0 aa0 wl0 K7 h7 ⟨K, acc, U0, rfl, rfl, hgo, hsz, c7⟩
    refine wp_seq_k (fun K8 h8 => ?_)
    refine wp_seq_k (fun K9 h9 => ?_)
    refine W.region_quiet [(0, false), (1, false)] (by kernel_rfl) ?_
    refine W.mv (v := .int .i64 ((K : Nat) : Int)) (h := ?_)
    by_cases q8 : (((K : Nat) : Int) : Int) > (0 : Int)
    · refine W.q (v := .bool true) (hr := (r_gtr (m := ((K : Nat) : Int)) (n := 0) rfl (by kernel_rfl) (by kernel_rfl) (decide_eq_true q8))) (h := ?_)
      refine W.endF 20 [(0, .int .i64 ((K : Nat) : Int)), (2, .string (⟨#[]⟩ : ByteArray)), (3, .string acc), (5, .bool false), (7, .bool true)] (fun U9 => ?_)
      refine h9 _ _ ?_
      refine wp_cond_true (by kernel_rfl) ?_
      refine wp_skip ?_
      refine h8 _ _ ?_
      refine wp_block ?_
      refine wp_seq_k (fun K10 h10 => ?_)
      refine W.region_plain (row := none) [(0, false), (1, false), (2, false), (3, false), (4, true), (5, true), (6, false), (7, false), (8, false)] (by kernel_rfl) ?_
      have s10 := SG.self wl0 none
      refine W.mv (v := .int .i64 ((K : Nat) : Int)) (h := ?_)
      refine W.q (v := .int .i64 ((K % 10 : Nat) : Int)) (hr := (r_remK (k := .i64) (m := ((K : Nat) : Int)) (n := 10) (z := ((K % 10 : Nat) : Int)) rfl (by kernel_rfl) (by kernel_rfl) (by omega) (rfl))) (h := ?_)
      refine W.q (v := .int .i64 (48 + ((K % 10 : Nat) : Int))) (hr := (r_add (m := 48) (n := ((K % 10 : Nat) : Int)) (z := 48 + ((K % 10 : Nat) : Int)) rfl (by kernel_rfl) (by kernel_rfl) (rfl) (by omega))) (h := ?_)
      refine W.q (v := .int .u8 (((dgB K).toNat : Nat) : Int)) (hr := (r_conv (k := .i64) (k' := .u8) (n := 48 + ((K % 10 : Nat) : Int)) (m := (((dgB K).toNat : Nat) : Int)) rfl (by kernel_rfl) (by kernel_rfl) (by kernel_rfl) (dgB_wrap K))) (h := ?_)
      refine W.sn (fun b => .slice (some ⟨b, 0, none⟩) 1 1) #[.int .u8 (((dgB K).toNat : Nat) : Int)] 5 s10 rfl (by kernel_rfl) rfl (fun _ => by kernel_rfl) (fun b11 w12 hb13 k14 x15 s16 => ?_)
      have lo17 : w.heap.size ≤ b11 := by have := ((SG.belowR c7 s10 (fun kq e => by cases e))).size; omega
      refine W.slq (v := .string (⟨#[dgB K]⟩ : ByteArray)) s16 rfl (r_bytes1 (c := 1) (x := dgB K) rfl (by kernel_rfl) (by kernel_rfl) (by kernel_rfl) x15) (by kernel_rfl) rfl ?_
      refine W.mv (v := .string acc) (h := ?_)
      refine W.q (v := .string ((⟨#[dgB K]⟩ : ByteArray) ++ acc)) (hr := (r_addS (s := (⟨#[dgB K]⟩ : ByteArray)) (r := acc) rfl (by kernel_rfl) (by kernel_rfl) (by rw [size1]; omega))) (h := ?_)
      refine W.as (v := .string ((⟨#[dgB K]⟩ : ByteArray) ++ acc)) (h := ?_)
      refine W.endF 20 [(0, .int .i64 ((K : Nat) : Int)), (2, .string (⟨#[]⟩ : ByteArray)), (3, .string ((⟨#[dgB K]⟩ : ByteArray) ++ acc)), (5, .bool false), (7, .bool true)] (fun U18 => ?_)
      have c19 := (SG.belowR c7 s16 (fun kq e => by cases e))
      refine h10 _ _ ?_
      refine W.region_quiet [(0, false), (1, false), (2, false)] (by kernel_rfl) ?_
      refine W.mv (v := .int .i64 ((K : Nat) : Int)) (h := ?_)
      refine W.q (v := .int .i64 ((K / 10 : Nat) : Int)) (hr := (r_quoK (k := .i64) (m := ((K : Nat) : Int)) (n := 10) (z := ((K / 10 : Nat) : Int)) rfl (by kernel_rfl) (by kernel_rfl) (by omega) (by rw [show Int.tdiv ((K : Nat) : Int) 10 = ((K / 10 : Nat) : Int) from rfl]; exact wrap_i64 (by omega) (by omega)))) (h := ?_)
      refine W.as (v := .int .i64 ((K / 10 : Nat) : Int)) (h := ?_)
      refine W.endF 20 [(0, .int .i64 ((K / 10 : Nat) : Int)), (2, .string (⟨#[]⟩ : ByteArray)), (3, .string ((⟨#[dgB K]⟩ : ByteArray) ++ acc)), (5, .bool false), (7, .bool true)] (fun U20 => ?_)
      exact h7 _ _ _ (by omega : (K / 10 + 1) < _) ⟨K / 10, ((⟨#[dgB K]⟩ : ByteArray) ++ acc), (fun iU9 => lk [(0, .int .i64 ((K / 10 : Nat) : Int)), (2, .string (⟨#[]⟩ : ByteArray)), (3, .string ((⟨#[dgB K]⟩ : ByteArray) ++ acc)), (5, .bool false), (7, .bool true)] iU9 (U20 iU9)), (by kernel_rfl), rfl, (by rw [← hgo, markGo_pos (K := K) (by omega)]), (by rw [ByteArray.size_append, size1]; omega), c19⟩
    · refine W.q (v := .bool false) (hr := (r_gtr (m := ((K : Nat) : Int)) (n := 0) rfl (by kernel_rfl) (by kernel_rfl) (decide_eq_false q8))) (h := ?_)
      refine W.endF 20 [(0, .int .i64 ((K : Nat) : Int)), (2, .string (⟨#[]⟩ : ByteArray)), (3, .string acc), (5, .bool false), (7, .bool false)] (fun U21 => ?_)
      refine h9 _ _ ?_
      refine wp_cond_false (by kernel_rfl) ?_
      refine wp_exit ?_
      refine h6 _ _ ?_
      refine wp_seq_k (fun K11 h11 => ?_)
      refine W.region_quiet [(0, false), (1, false), (2, false)] (by kernel_rfl) ?_
      refine W.mv (v := .string acc) (h := ?_)
      refine W.q (v := .string ((⟨#[109]⟩ : ByteArray) ++ acc)) (hr := (r_addS (s := (⟨#[109]⟩ : ByteArray)) (r := acc) rfl (by kernel_rfl) (by kernel_rfl) (by rw [size1]; omega))) (h := ?_)
      refine W.as (v := .string ((⟨#[109]⟩ : ByteArray) ++ acc)) (h := ?_)
      refine W.endF 20 [(0, .int .i64 ((K : Nat) : Int)), (2, .string ((⟨#[109]⟩ : ByteArray) ++ acc)), (3, .string acc), (5, .bool false), (7, .bool false)] (fun U22 => ?_)
      refine h11 _ _ ?_
      refine wp_ret ?_
      try simp only [Exit.then]
      refine ret1 (v := .string ((⟨#[109]⟩ : ByteArray) ++ acc)) rfl (by kernel_rfl) ?_
      exact ⟨by unfold markT; rw [if_neg (by omega), ← hgo, markGo_zero (by omega)], c7⟩

theorem markText_any (z : Int) (h0 : 0 ≤ z) (h1 : z ≤ 4611686018427387904) (w : World) : Calls Try.prog 29 #[.int .i64 z] w fun e w' => e = .returned (.string (markT z.toNat)) ∧ Below w.heap.size w w' := by
  obtain ⟨K, rfl⟩ := Int.eq_ofNat_of_zero_le h0
  exact markText_nat K w (by omega)

set_option maxRecDepth 100000 in
set_option maxHeartbeats 1000000 in
theorem eqStringS_below (A B : Option Addr) (n c d : Nat) (zs : List ByteArray) (w : World) (ha : Rd w 1 A n (strsV zs)) (hb : Rd w 1 B n (strsV zs)) (hn : n ≤ 9223372036854775807) :
    Calls Try.prog 15 #[.slice A n c, .slice B n d] w fun e w' => e = .returned (.bool true) ∧ Below w.heap.size w w' := by
  have hl := rd_strs_len ha
  go_enter Try.func15, Try.ntmps15
  refine wp_seq_k (fun K1 h1 => ?_)
  refine W.region_quiet [(0, false)] (by kernel_rfl) ?_
  refine W.as (v := .bool false) (h := ?_)
  refine W.endF 26 [(0, .slice A n c), (1, .slice B n d), (4, .bool false)] (fun U1 => ?_)
  refine h1 _ _ ?_
  refine wp_seq_k (fun K2 h2 => ?_)
  refine wp_seq_k (fun K3 h3 => ?_)
  refine W.region_quiet [(0, false), (1, false), (2, false), (3, false), (4, false)] (by kernel_rfl) ?_
  refine W.mv (v := .slice A n c) (h := ?_)
  refine W.q (v := .int .i64 ((n : Nat) : Int)) (hr := (r_len (A := A) (n := n) (c := c) rfl (by kernel_rfl) (by kernel_rfl))) (h := ?_)
  refine W.mv (v := .slice B n d) (h := ?_)
  refine W.q (v := .int .i64 ((n : Nat) : Int)) (hr := (r_len (A := B) (n := n) (c := d) rfl (by kernel_rfl) (by kernel_rfl))) (h := ?_)
  refine W.q (v := .bool false) (hr := (r_neq (m := ((n : Nat) : Int)) (n := ((n : Nat) : Int)) rfl (by kernel_rfl) (by kernel_rfl) (decide_eq_false (by omega)))) (h := ?_)
  refine W.endF 26 [(0, .slice A n c), (1, .slice B n d), (4, .bool false), (10, .bool false)] (fun U2 => ?_)
  refine h3 _ _ ?_
  refine wp_cond_false (by kernel_rfl) ?_
  refine wp_skip ?_
  refine h2 _ _ ?_
  refine wp_seq_k (fun K4 h4 => ?_)
  refine wp_seq_k (fun K5 h5 => ?_)
  refine W.region_quiet [(0, false)] (by kernel_rfl) ?_
  refine W.as (v := .int .i64 0) (h := ?_)
  refine W.endF 26 [(0, .slice A n c), (1, .slice B n d), (4, .bool false), (5, .int .i64 0), (10, .bool false)] (fun U3 => ?_)
  refine h5 _ _ ?_
  refine wp_block ?_
  refine loopK (fun am0 aa0 wl0 => ∃ (k : Nat) (U0 : Nat → Value), aa0 = ⟨(fr U0 [(0, .slice A n c), (1, .slice B n d), (4, .bool false), (5, .int .i64 ((k : Nat) : Int)), (10, .bool false)] 26 0).toArray, []⟩ ∧ (am0 = n - k) ∧ (k ≤ n) ∧ (Below w.heap.size w wl0)) (n - 0) ?_ ?_
  · exact ⟨0, (fun iU9 => lk [(0, .slice A n c), (1, .slice B n d), (4, .bool false), (5, .int .i64 0), (10, .bool false)] iU9 (U3 iU9)), (by kernel_rfl), rfl, (Nat.zero_le _), (Below.refl _ _)⟩
  rintro am0 aa0 wl0 K6 h6 ⟨k, U0, rfl, rfl, hk, c4⟩
  refine wp_seq_k (fun K7 h7 => ?_)
  refine wp_seq_k (fun K8 h8 => ?_)
  refine W.region_quiet [(0, false), (1, false), (2, false), (3, false)] (by kernel_rfl) ?_
  refine W.mv (v := .int .i64 ((k : Nat) : Int)) (h := ?_)
  refine W.mv (v := .slice A n c) (h := ?_)
  refine W.q (v := .int .i64 ((n : Nat) : Int)) (hr := (r_len (A := A) (n := n) (c := c) rfl (by kernel_rfl) (by kernel_rfl))) (h := ?_)
  by_cases q5 : (((k : Nat) : Int) : Int) < (((n : Nat) : Int) : Int)
  · refine W.q (v := .bool true) (hr := (r_lss (m := ((k : Nat) : Int)) (n := ((n : Nat) : Int)) rfl (by kernel_rfl) (by kernel_rfl) (decide_eq_true q5))) (h := ?_)
    refine W.endF 26 [(0, .slice A n c), (1, .slice B n d), (4, .bool false), (5, .int .i64 ((k : Nat) : Int)), (10, .bool false), (14, .bool true)] (fun U6 => ?_)
    refine h8 _ _ ?_
    refine wp_cond_true (by kernel_rfl) ?_
    refine wp_skip ?_
    refine h7 _ _ ?_
    refine wp_seq_k (fun K9 h9 => ?_)
    refine wp_block ?_
    refine wp_seq_k (fun K10 h10 => ?_)
    refine W.region_sch (row := none) (Sch.of [(0, false), (1, false), (2, false), (3, false), (4, false), (5, false), (6, false), (7, false), (8, false)]) (by kernel_rfl) (by kernel_rfl) (fun _ d _ _ _ h => by cases d <;> exact h) (by kernel_rfl) (fun w7 e8 s9 => ?_)
    refine W.mv (v := .slice A n c) (h := ?_)
    refine W.mv (v := .int .i64 ((k : Nat) : Int)) (h := ?_)
    obtain ⟨x10, hx11⟩ := get_of (zs := zs) (k := k) (by have := hl; omega)
    obtain ⟨b12, o13, hA14, hb15, hc16⟩ := Rd.elStr ha hx11
    refine W.q (v := .pointer (some ⟨b12, o13 + k, none⟩)) (hr := (r_idx1 (n := n) (c := c) (k := k) rfl (by kernel_rfl) hA14 (by kernel_rfl) (by kernel_rfl) (by have := hl; omega))) (h := ?_)
    refine W.ld (v := .string x10) (hc := (sgS (later c4 hc16) (by simp))) (h := ?_)
    refine W.mv (v := .slice B n d) (h := ?_)
    refine W.mv (v := .int .i64 ((k : Nat) : Int)) (h := ?_)
    obtain ⟨b17, o18, hA19, hb20, hc21⟩ := Rd.elStr hb hx11
    refine W.q (v := .pointer (some ⟨b17, o18 + k, none⟩)) (hr := (r_idx1 (n := n) (c := d) (k := k) rfl (by kernel_rfl) hA19 (by kernel_rfl) (by kernel_rfl) (by have := hl; omega))) (h := ?_)
    refine W.ld (v := .string x10) (hc := (sgS (later c4 hc21) (by simp))) (h := ?_)
    refine W.q (v := .bool false) (hr := (r_neqS (s := x10) (r := x10) rfl (by kernel_rfl) (by kernel_rfl) (by rw [decide_eq_true rfl]; rfl))) (h := ?_)
    refine W.endF 26 [(0, .slice A n c), (1, .slice B n d), (4, .bool false), (5, .int .i64 ((k : Nat) : Int)), (10, .bool false), (14, .bool true), (25, .bool false)] (fun U22 => ?_)
    have c23 := (SG.belowR c4 s9 (fun kq e => by cases e))
    refine h10 _ _ ?_
    refine wp_cond_false (by kernel_rfl) ?_
    refine wp_skip ?_
    refine h9 _ _ ?_
    refine W.region_quiet [(0, false), (1, false), (2, false)] (by kernel_rfl) ?_
    refine W.mv (v := .int .i64 ((k : Nat) : Int)) (h := ?_)
    refine W.q (v := .int .i64 ((k + 1 : Nat) : Int)) (hr := (r_add (m := ((k : Nat) : Int)) (n := 1) (z := ((k + 1 : Nat) : Int)) rfl (by kernel_rfl) (by kernel_rfl) (by omega) (by omega))) (h := ?_)
    refine W.as (v := .int .i64 ((k + 1 : Nat) : Int)) (h := ?_)
    refine W.endF 26 [(0, .slice A n c), (1, .slice B n d), (4, .bool false), (5, .int .i64 ((k + 1 : Nat) : Int)), (10, .bool false), (14, .bool true), (25, .bool false)] (fun U24 => ?_)
    exact h6 _ _ _ (by omega : (n - (k + 1)) < _) ⟨k + 1, (fun iU9 => lk [(0, .slice A n c), (1, .slice B n d), (4, .bool false), (5, .int .i64 ((k + 1 : Nat) : Int)), (10, .bool false), (14, .bool true), (25, .bool false)] iU9 (U24 iU9)), (by kernel_rfl), rfl, (by omega), c23⟩
  · refine W.q (v := .bool false) (hr := (r_lss (m := ((k : Nat) : Int)) (n := ((n : Nat) : Int)) rfl (by kernel_rfl) (by kernel_rfl) (decide_eq_false q5))) (h := ?_)
    refine W.endF 26 [(0, .slice A n c), (1, .slice B n d), (4, .bool false), (5, .int .i64 ((k : Nat) : Int)), (10, .bool false), (14, .bool false)] (fun U25 => ?_)
    refine h8 _ _ ?_
    refine wp_cond_false (by kernel_rfl) ?_
    refine wp_exit ?_
    refine h4 _ _ ?_
    refine wp_seq_k (fun K11 h11 => ?_)
    refine W.region_quiet [(0, false)] (by kernel_rfl) ?_
    refine W.as (v := .bool true) (h := ?_)
    refine W.endF 26 [(0, .slice A n c), (1, .slice B n d), (4, .bool true), (5, .int .i64 ((k : Nat) : Int)), (10, .bool false), (14, .bool false)] (fun U26 => ?_)
    refine h11 _ _ ?_
    refine wp_ret ?_
    try simp only [Exit.then]
    refine ret1 (v := .bool true) rfl (by kernel_rfl) ?_
    exact ⟨rfl, c4⟩

set_option maxRecDepth 100000 in
set_option maxHeartbeats 1000000 in
theorem heldStringS_below (A : Option Addr) (n c : Nat) (k0 : Int) (w : World) (ha : Rd w 1 A n (strsV (marksFrom k0 n))) (hn : n ≤ 1000000000) (h0 : 0 ≤ k0) (h1 : k0 ≤ 1000000000000) :
    Calls Try.prog 17 #[.slice A n c, .int .i64 k0] w fun e w' => e = .returned (.int .i64 (k0 + n)) ∧ Below w.heap.size w w' := by
  have hl := rd_strs_len ha
  go_enter Try.func17, Try.ntmps17
  refine wp_seq_k (fun K1 h1 => ?_)
  refine W.region_quiet [(0, false)] (by kernel_rfl) ?_
  refine W.as (v := .int .i64 0) (h := ?_)
  refine W.endF 22 [(0, .slice A n c), (1, .int .i64 k0), (4, .int .i64 0)] (fun U1 => ?_)
  refine h1 _ _ ?_
  refine wp_seq_k (fun K2 h2 => ?_)
  refine wp_seq_k (fun K3 h3 => ?_)
  refine W.region_quiet [(0, false)] (by kernel_rfl) ?_
  refine W.as (v := .int .i64 0) (h := ?_)
  refine W.endF 22 [(0, .slice A n c), (1, .int .i64 k0), (4, .int .i64 0), (5, .int .i64 0)] (fun U2 => ?_)
  refine h3 _ _ ?_
  refine wp_block ?_
  refine loopK (fun am0 aa0 wl0 => ∃ (k : Nat) (z : Int) (U0 : Nat → Value), aa0 = ⟨(fr U0 [(0, .slice A n c), (1, .int .i64 z), (4, .int .i64 0), (5, .int .i64 ((k : Nat) : Int))] 22 0).toArray, []⟩ ∧ (am0 = n - k) ∧ (k ≤ n) ∧ (z = k0 + (k : Int)) ∧ (Below w.heap.size w wl0)) (n - 0) ?_ ?_
  · exact ⟨0, k0, (fun iU9 => lk [(0, .slice A n c), (1, .int .i64 k0), (4, .int .i64 0), (5, .int .i64 0)] iU9 (U2 iU9)), (by kernel_rfl), rfl, (Nat.zero_le _), (by omega), (Below.refl _ _)⟩
  rintro am0 aa0 wl0 K4 h4 ⟨k, z, U0, rfl, rfl, hk, hz, c3⟩
  refine wp_seq_k (fun K5 h5 => ?_)
  refine wp_seq_k (fun K6 h6 => ?_)
  refine W.region_quiet [(0, false), (1, false), (2, false), (3, false)] (by kernel_rfl) ?_
  refine W.mv (v := .int .i64 ((k : Nat) : Int)) (h := ?_)
  refine W.mv (v := .slice A n c) (h := ?_)
  refine W.q (v := .int .i64 ((n : Nat) : Int)) (hr := (r_len (A := A) (n := n) (c := c) rfl (by kernel_rfl) (by kernel_rfl))) (h := ?_)
  by_cases q4 : (((k : Nat) : Int) : Int) < (((n : Nat) : Int) : Int)
  · refine W.q (v := .bool true) (hr := (r_lss (m := ((k : Nat) : Int)) (n := ((n : Nat) : Int)) rfl (by kernel_rfl) (by kernel_rfl) (decide_eq_true q4))) (h := ?_)
    refine W.endF 22 [(0, .slice A n c), (1, .int .i64 z), (4, .int .i64 0), (5, .int .i64 ((k : Nat) : Int)), (9, .bool true)] (fun U5 => ?_)
    refine h6 _ _ ?_
    refine wp_cond_true (by kernel_rfl) ?_
    refine wp_skip ?_
    refine h5 _ _ ?_
    refine wp_seq_k (fun K7 h7 => ?_)
    refine wp_block ?_
    refine wp_seq_k (fun K8 h8 => ?_)
    refine wp_seq_k (fun K9 h9 => ?_)
    refine W.region_sch (row := none) (Sch.of [(0, false), (1, false), (2, false), (3, false), (4, false), (5, true), (6, false)]) (by kernel_rfl) (by kernel_rfl) (fun _ d _ _ _ h => by cases d <;> exact h) (by kernel_rfl) (fun w6 e7 s8 => ?_)
    refine W.mv (v := .slice A n c) (h := ?_)
    refine W.mv (v := .int .i64 ((k : Nat) : Int)) (h := ?_)
    obtain ⟨x9, hx10⟩ := get_of (zs := (marksFrom k0 n)) (k := k) (by have := hl; omega)
    obtain ⟨b11, o12, hA13, hb14, hc15⟩ := Rd.elStr ha hx10
    refine W.q (v := .pointer (some ⟨b11, o12 + k, none⟩)) (hr := (r_idx1 (n := n) (c := c) (k := k) rfl (by kernel_rfl) hA13 (by kernel_rfl) (by kernel_rfl) (by have := hl; omega))) (h := ?_)
    refine W.ld (v := .string x9) (hc := (sgS (later c3 hc15) (by simp))) (h := ?_)
    refine W.mv (v := .int .i64 z) (h := ?_)
    refine W.sc (vs := [.int .i64 z]) rfl rfl (by kernel_rfl) (by kernel_rfl) (by kernel_rfl) rfl (markText_any z (by omega) (by omega) _) ?_
    rintro e w17 ⟨rfl, b16⟩
    have s18 := SG.of_below s8 b16
    refine ⟨_, rfl, s18, ?_⟩
    refine W.q (v := .bool false) (hr := (r_neqS (s := x9) (r := (markT z.toNat)) rfl (by kernel_rfl) (by kernel_rfl) (by rw [decide_eq_true (by have h9 := marks_at k0 n k (by omega); rw [hx10, ← hz] at h9; exact Option.some.inj h9)]; rfl))) (h := ?_)
    refine W.endF 22 [(0, .slice A n c), (1, .int .i64 z), (4, .int .i64 0), (5, .int .i64 ((k : Nat) : Int)), (9, .bool true), (18, .bool false)] (fun U19 => ?_)
    have c20 := (SG.belowR c3 s18 (fun kq e => by cases e))
    refine h9 _ _ ?_
    refine wp_cond_false (by kernel_rfl) ?_
    refine wp_skip ?_
    refine h8 _ _ ?_
    refine W.region_quiet [(0, false), (1, false), (2, false)] (by kernel_rfl) ?_
    refine W.mv (v := .int .i64 z) (h := ?_)
    refine W.q (v := .int .i64 (z + 1)) (hr := (r_add (m := z) (n := 1) (z := z + 1) rfl (by kernel_rfl) (by kernel_rfl) (rfl) (by omega))) (h := ?_)
    refine W.as (v := .int .i64 (z + 1)) (h := ?_)
    refine W.endF 22 [(0, .slice A n c), (1, .int .i64 (z + 1)), (4, .int .i64 0), (5, .int .i64 ((k : Nat) : Int)), (9, .bool true), (18, .bool false)] (fun U21 => ?_)
    refine h7 _ _ ?_
    refine W.region_quiet [(0, false), (1, false), (2, false)] (by kernel_rfl) ?_
    refine W.mv (v := .int .i64 ((k : Nat) : Int)) (h := ?_)
    refine W.q (v := .int .i64 ((k + 1 : Nat) : Int)) (hr := (r_add (m := ((k : Nat) : Int)) (n := 1) (z := ((k + 1 : Nat) : Int)) rfl (by kernel_rfl) (by kernel_rfl) (by omega) (by omega))) (h := ?_)
    refine W.as (v := .int .i64 ((k + 1 : Nat) : Int)) (h := ?_)
    refine W.endF 22 [(0, .slice A n c), (1, .int .i64 (z + 1)), (4, .int .i64 0), (5, .int .i64 ((k + 1 : Nat) : Int)), (9, .bool true), (18, .bool false)] (fun U22 => ?_)
    exact h4 _ _ _ (by omega : (n - (k + 1)) < _) ⟨k + 1, z + 1, (fun iU9 => lk [(0, .slice A n c), (1, .int .i64 (z + 1)), (4, .int .i64 0), (5, .int .i64 ((k + 1 : Nat) : Int)), (9, .bool true), (18, .bool false)] iU9 (U22 iU9)), (by kernel_rfl), rfl, (by omega), (by omega), c20⟩
  · refine W.q (v := .bool false) (hr := (r_lss (m := ((k : Nat) : Int)) (n := ((n : Nat) : Int)) rfl (by kernel_rfl) (by kernel_rfl) (decide_eq_false q4))) (h := ?_)
    refine W.endF 22 [(0, .slice A n c), (1, .int .i64 z), (4, .int .i64 0), (5, .int .i64 ((k : Nat) : Int)), (9, .bool false)] (fun U23 => ?_)
    refine h6 _ _ ?_
    refine wp_cond_false (by kernel_rfl) ?_
    refine wp_exit ?_
    refine h2 _ _ ?_
    refine wp_seq_k (fun K10 h10 => ?_)
    refine W.region_quiet [(0, false), (1, false)] (by kernel_rfl) ?_
    refine W.mv (v := .int .i64 z) (h := ?_)
    refine W.as (v := .int .i64 z) (h := ?_)
    refine W.endF 22 [(0, .slice A n c), (1, .int .i64 z), (4, .int .i64 z), (5, .int .i64 ((k : Nat) : Int)), (9, .bool false)] (fun U24 => ?_)
    refine h10 _ _ ?_
    refine wp_ret ?_
    try simp only [Exit.then]
    refine ret1 (v := .int .i64 z) rfl (by kernel_rfl) ?_
    exact ⟨by rw [show k0 + (n : Int) = z by omega], c3⟩

end Go.Proofs.Ytgpallafdmjbdaa
